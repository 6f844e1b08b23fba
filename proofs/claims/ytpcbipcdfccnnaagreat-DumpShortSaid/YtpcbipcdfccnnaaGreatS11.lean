/- Go functions: what they come to, and that they do. Printed by a program of the session (gen). -/
import Derived.Test.YtpcbipcdfccnnaaGreatSF
import Derived.Test.YtpcbipcdfccnnaaGreatS10
import Derived.Test.YtpcbipcdfccnnaaGreatKShar2
import Derived.Test.YtpcbipcdfccnnaaGreatKConv
import Derived.Test.YtpcbipcdfccnnaaGreatKMap
import Derived.Test.YtpcbipcdfccnnaaGreatKShar
import Derived.Test.YtpcbipcdfccnnaaGreatKTight2
set_option linter.unusedVariables false
set_option linter.unusedSimpArgs false
set_option maxHeartbeats 8000000
set_option maxRecDepth 100000
namespace Go.Proofs.YtpcbipcdfccnnaaGreat.G
open Go Go.KK

noncomputable def f_wire_Reader_Num_1 (a0:Int) (a1:(List Int)) (a2:Int):Option (Int×Int):=
 (grd (0≤a2∧a2<a1.length) (some (orI .u64 (shlI .u64 a0 (8:Int)) (IntKind.u64.wrap (rd a1 a2)),IntKind.i64.wrap (a2+(1:Int)))))
def f_wire_Reader_Num_1_post (a0:Int) (a1:(List Int)) (a2:Int) (v1:Value) (g0 g1 g2:Nat):(Int×Int)→Value→IM→HL→Prop:=
 fun(p_:(Int×Int)) (v:Value) (M':IM) (H':HL)=>match p_ with |(r0,r1)=>(.tuple #[])=v∧H'=[[(g0, .cells #[(.int .u64 r0)] 97 (0,0))],[(g1, .cells #[v1] 31 (0,0))],[(g2, .cells #[(.int .i64 r1)] 3 (0,0))]]
theorem f_wire_Reader_Num_1_ok (a0:Int) (a1:(List Int)) (a2:Int) (M:IM) (v1:Value) (g0 g1 g2:Nat) (h1:RS (Kd.int .u8) M v1 a1) (res:(Int×Int)) (h:f_wire_Reader_Num_1 a0 a1 a2=some res):
 Tri Tryz.prog 79 #[(pt g0 0),(pt g1 0),(pt g2 0)] M [[(g0, .cells #[(Uv a0)] 97 (0,0))],[(g1, .cells #[v1] 31 (0,0))],[(g2, .cells #[(Iv a2)] 3 (0,0))]] (f_wire_Reader_Num_1_post a0 a1 a2 v1 g0 g1 g2 res):=by
 unfold f_wire_Reader_Num_1 at h
 refine Te Tryz.func79 Z Z ?_
 intro F ρ hρ
 refine Cs (WC.draw [0,1,0,0,12,28,60,127,255] (.pure 0 (.pure 1 (.pure 2 (.pure 3 (.pure 4 (.pure 5 (.pure 6 (.pure 7 (.alt 8 .done .none))))))))) mixed (by kernel_rfl) (qt (Uv a0) Z (Lb 0 pl97 (hρ 0) Z Z) (qt (Uv (shlI .u64 a0 (8:Int))) Z (PO.shl Z Z (by decide)) (qt v1 Z (Lb 1 pl31 (hρ 1) Z Z) (qt (Iv a2) Z (Lb 2 pl3 (hρ 2) Z Z) ?_)))))
 obtain ⟨hg21,h⟩:=grd_i h
 obtain ⟨p22,cs23,hat24,hrc25,hhas26⟩:=h1.at hg21.1 hg21.2 (by decide)
 obtain rfl:=hrc25
 refine qt (.pointer (some p22)) Z (PO.indexAddr (n:=a1.length) Tryz.underlying31 sz5 Z Z hg21.1 hg21.2 hat24) (qt (Yv (rd a1 a2)) Z (PO.loadM pl5 Z (IM.has0 hhas26)) (qt (Uv (IntKind.u64.wrap (rd a1 a2))) Z (PO.conv us5 Tryz.underlying97 Z) (qt (Uv (orI .u64 (shlI .u64 a0 (8:Int)) (IntKind.u64.wrap (rd a1 a2)))) Z (PO.or Z Z) (Ta Z (Es (Uv (orI .u64 (shlI .u64 a0 (8:Int)) (IntKind.u64.wrap (rd a1 a2)))) [(Uv (orI .u64 (shlI .u64 a0 (8:Int)) (IntKind.u64.wrap (rd a1 a2))))] Z sz97 (hρ 0) Z Z Z Z Z) Z ?_ ?_))))
 rintro _ _ _ - ⟨rfl,rfl⟩
 refine⟨(Sl Z), ?_⟩
 refine Ti (Tc (Cg (qu (Iv a2) (Lb 2 pl3 (hρ 2) Z Z) (qu (Iv (IntKind.i64.wrap (a2+1))) (PO.add Z Z) (Wb (We (Es (Iv (IntKind.i64.wrap (a2+1))) [(Iv (IntKind.i64.wrap (a2+1)))] Z sz3 (hρ 2) Z Z Z Z Z) Z ?_))))))
 rintro _ _ _ - ⟨rfl,rfl⟩
 exact Wz (Qb (Qb (WQ.endsF h [[(g0, .cells #[(Uv (orI .u64 (shlI .u64 a0 (8:Int)) (IntKind.u64.wrap (rd a1 a2))))] 97 (0,0))],[(g1, .cells #[v1] 31 (0,0))],[(g2, .cells #[(Iv (IntKind.i64.wrap (a2+1)))] 3 (0,0))]] Z (results0 Z) lr ⟨Z,Z⟩)))
 exact Tz
noncomputable def f_wire_Reader_Num (a0:T_wire_Reader) (a1:Int):Option (Int×Int×GErr):=
 (if(!a0.err.isNil)=true then(some ((0:Int),a0.at_,a0.err))else(grd (0≤a0.at_∧a0.at_≤(a0.b.length:Int)∧(a0.b.length:Int)≤(a0.b.length:Int)) (if(decide (((sub a0.b a0.at_ (a0.b.length:Int)).length:Int)=(0:Int)))=true then((f_wire_Reader_fail a0 (⟨#[110,117,109]⟩:ByteArray) a0.at_ (3:Int)).bind fun r26=>(some ((0:Int),a0.at_,r26)))else(grd (0≤(0:Int)∧(0:Int)<(sub a0.b a0.at_ (a0.b.length:Int)).length) (grd (0≤shrI .u8 (rd (sub a0.b a0.at_ (a0.b.length:Int)) (0:Int)) (6:Int)) (if(decide (((sub a0.b a0.at_ (a0.b.length:Int)).length:Int)<(shlI .i64 (1:Int) (shrI .u8 (rd (sub a0.b a0.at_ (a0.b.length:Int)) (0:Int)) (6:Int)))))=true then((f_wire_Reader_fail a0 (⟨#[110,117,109]⟩:ByteArray) a0.at_ (3:Int)).bind fun r39=>(some ((0:Int),a0.at_,r39)))else(grd (0≤(0:Int)∧(0:Int)<(sub a0.b a0.at_ (a0.b.length:Int)).length) (((((((if(decide ((shlI .i64 (1:Int) (shrI .u8 (rd (sub a0.b a0.at_ (a0.b.length:Int)) (0:Int)) (6:Int)))=(8:Int)))=true then((f_wire_Reader_Num_1 (IntKind.u64.wrap (andI .u8 (rd (sub a0.b a0.at_ (a0.b.length:Int)) (0:Int)) (63:Int))) (sub a0.b a0.at_ (a0.b.length:Int)) (1:Int)).bind fun(r65,r66)=>((f_wire_Reader_Num_1 r65 (sub a0.b a0.at_ (a0.b.length:Int)) r66).bind fun(r70,r71)=>((f_wire_Reader_Num_1 r70 (sub a0.b a0.at_ (a0.b.length:Int)) r71).bind fun(r75,r76)=>((f_wire_Reader_Num_1 r75 (sub a0.b a0.at_ (a0.b.length:Int)) r76).bind fun(r80,r81)=>(some (Sum.inl (IntKind.u64.wrap ((0:Int)+(1073725440:Int)),r81,r80)))))))else(if(decide ((shlI .i64 (1:Int) (shrI .u8 (rd (sub a0.b a0.at_ (a0.b.length:Int)) (0:Int)) (6:Int)))=(4:Int)))=true then(some (Sum.inl ((0:Int),(1:Int),IntKind.u64.wrap (andI .u8 (rd (sub a0.b a0.at_ (a0.b.length:Int)) (0:Int)) (63:Int)))))else(if(decide ((shlI .i64 (1:Int) (shrI .u8 (rd (sub a0.b a0.at_ (a0.b.length:Int)) (0:Int)) (6:Int)))=(2:Int)))=true then(((some (Sum.inl ((0:Int),(1:Int),IntKind.u64.wrap (andI .u8 (rd (sub a0.b a0.at_ (a0.b.length:Int)) (0:Int)) (63:Int)))))).bind fun r=>some (Sum.inr r))else(((((some ((0:Int),(1:Int),IntKind.u64.wrap (andI .u8 (rd (sub a0.b a0.at_ (a0.b.length:Int)) (0:Int)) (63:Int))))).bind fun r=>some (Sum.inr r))).bind fun r=>some (Sum.inr r))))):Option ((Int×Int×Int)⊕((Int×Int×Int)⊕(Int×Int×Int)))).bind (Sum.elim (fun(x60,x61,x62)=>((f_wire_Reader_Num_1 x62 (sub a0.b a0.at_ (a0.b.length:Int)) x61).bind fun(r87,r88)=>((f_wire_Reader_Num_1 r87 (sub a0.b a0.at_ (a0.b.length:Int)) r88).bind fun(r92,r93)=>(some (Sum.inl (IntKind.u64.wrap (x60+(16320:Int)),r93,r92)))))) some)):Option ((Int×Int×Int)⊕(Int×Int×Int))).bind (Sum.elim (fun(x56,x57,x58)=>((f_wire_Reader_Num_1 x58 (sub a0.b a0.at_ (a0.b.length:Int)) x57).bind fun(r97,r98)=>(some (IntKind.u64.wrap (x56+(64:Int)),r98,r97)))) some)):Option (Int×Int×Int)).bind fun(x52,x53,x54)=>(if(decide (x54<x52))=true then((f_wire_Reader_fail a0 (⟨#[110,117,109]⟩:ByteArray) a0.at_ (5:Int)).bind fun r103=>(some ((0:Int),a0.at_,r103)))else(if(decide (a1<x54))=true then((f_wire_Reader_fail a0 (⟨#[110,117,109]⟩:ByteArray) a0.at_ (6:Int)).bind fun r108=>(some ((0:Int),a0.at_,r108)))else(some (x54,IntKind.i64.wrap (a0.at_+(shlI .i64 (1:Int) (shrI .u8 (rd (sub a0.b a0.at_ (a0.b.length:Int)) (0:Int)) (6:Int)))),a0.err))))))))))))
def f_wire_Reader_Num_post (a0:T_wire_Reader) (a1:Int) (v0_0:Value) (g0:Nat):(Int×Int×GErr)→Value→IM→HL→Prop:=
 fun(p_:(Int×Int×GErr)) (v:Value) (M':IM) (H':HL)=>match p_ with |(r0,r1,r2)=>(.int .u64 r0)=v∧H'=[[(g0, .cells #[v0_0,(.int .i64 r1),(GV r2)] 99 (0,0))]]
theorem f_wire_Reader_Num_ok (a0:T_wire_Reader) (a1:Int) (M:IM) (v0_0:Value) (g0:Nat) (h0_0:RS (Kd.int .u8) M v0_0 a0.b) (res:(Int×Int×GErr)) (h:f_wire_Reader_Num a0 a1=some res):
 Tri Tryz.prog 54 #[(pt g0 0),(Uv a1)] M [[(g0, .cells #[v0_0,(Iv a0.at_),(GV a0.err)] 99 (0,0))]] (f_wire_Reader_Num_post a0 a1 v0_0 g0 res):=by
 unfold f_wire_Reader_Num at h
 refine Te Tryz.func54 Z Z ?_
 intro F ρ hρ
 refine Sr (qa (Uv 0) (Nt (Cs (Sr (qM (pt g0 0) (hρ 0) (qu (pt g0 0) (Nk Z) (qu (pt g0 2) (Fa fo99_2 Z Z) (qu (GV a0.err) (Lb 0 pl33 Z Z Z) (qu (Bv (!a0.err.isNil)) (PO.errNotNil Tryz.underlying33 Z) (Nt (Ch h Z (fun hb21 h=> ?_) (fun hb21 h=> ?_))))))))))))
 exact Sr (qa (Uv 0) (Nt (Cr (Tr (Rf h [[(g0, .cells #[v0_0,(Iv a0.at_),(GV a0.err)] 99 (0,0))]] Z (Rs Z Z) lr ⟨Z,Z⟩)))))
 refine Ck (Tc (Cs (WC.draw [0,1,3,7,0,16,48,112,255,0,1023] (.pure 0 (.pure 1 (.pure 2 (.pure 3 (.pure 4 (.pure 5 (.pure 6 (.pure 7 (.pure 8 (.alt 9 (.alt 10 .done .none) .none)))))))))) mixed (by kernel_rfl) (qt (pt g0 0) Z (Mv (hρ 0)) (qt (pt g0 0) Z (Nk Z) (qt (pt g0 0) Z (Fa fo99_0 Z Z) (qt v0_0 Z (Lb 0 pl31 Z Z Z) (qt (pt g0 0) Z (Mv (hρ 0)) (qt (pt g0 0) Z (Nk Z) (qt (pt g0 1) Z (Fa fo99_1 Z Z) (qt (Iv a0.at_) Z (Lb 0 pl3 Z Z Z) ?_)))))))))))
 obtain ⟨hg22,h⟩:=grd_i h
 have h23:=h0_0.sub hg22.1 hg22.2.1 hg22.2.2
 refine qt (slV v0_0 1 (a0.at_).toNat ((a0.b.length:Int)).toNat) Z (PO.slice (n:=a0.b.length) (l:=(a0.at_).toNat) (h:=((a0.b.length:Int)).toNat) Tryz.underlying31 sz5 Z h0_0.len h0_0.cap ⟨_,_,Z,hg22.1,Z⟩ (boundN_ Z) (Int.toNat_le_toNat hg22.2.1) (toNat_le_len hg22.2.2)) (Ta Z (Al ze31 Z) Z ?_ ?_)
 rintro _ _ _ - ⟨rfl,g24,rfl,rfl⟩
 refine⟨(Ss Z (PO.slice (n:=a0.b.length) (l:=(a0.at_).toNat) (h:=((a0.b.length:Int)).toNat) Tryz.underlying31 sz5 Z h0_0.len h0_0.cap ⟨_,_,Z,hg22.1,Z⟩ (boundN_ Z) (Int.toNat_le_toNat hg22.2.1) (toNat_le_len hg22.2.2)) Z (Ss Z (Lb 1 pl3 Z Z Z) Z (Ss Z (Fa fo99_1 Z Z) Z (Ss Z (Nk Z) Z (Ss Z (Mv (hρ 0)) Z (Ss Z (Lb 1 pl31 Z Z Z) Z (Ss Z (Fa fo99_0 Z Z) Z (Ss Z (Nk Z) Z (Ss Z (Mv (hρ 0)) Z trivial))))))))), ?_⟩
 refine Ta Z (Es (slV v0_0 1 (a0.at_).toNat ((a0.b.length:Int)).toNat) [(slV v0_0 1 (a0.at_).toNat ((a0.b.length:Int)).toNat)] h23.cells sz31 Z Z (RS.one h23) Z Z Z) Z ?_ ?_
 rintro _ _ _ - ⟨rfl,rfl⟩
 refine⟨(Sl Z), ?_⟩
 refine Ti (Tc (Cs (Sr (qu (slV v0_0 1 (a0.at_).toNat ((a0.b.length:Int)).toNat) (Lb 0 pl31 Z Z Z) (qu (Iv ((sub a0.b a0.at_ (a0.b.length:Int)).length:Int)) (PO.lenS Tryz.underlying31 Z h23.len) (qu (Bv (decide (((sub a0.b a0.at_ (a0.b.length:Int)).length:Int)=(0:Int)))) (PO.eql Z Z) (Nt (Ch h Z (fun hb25 h=> ?_) (fun hb25 h=> ?_)))))))))
 refine Sr (qM (pt g0 0) (hρ 0) (qM (pt g0 0) (hρ 0) (qu (pt g0 0) (Nk Z) (qu (pt g0 1) (Fa fo99_1 Z Z) (qu (Iv a0.at_) (Lb 1 pl3 Z Z Z) ?_)))))
 obtain ⟨r26,hr27,h⟩:=bnd h
 refine WL.f1 (We (Cb co55 (f_wire_Reader_fail_ok a0 (⟨#[110,117,109]⟩:ByteArray) a0.at_ (3:Int) _ _ _ h0_0 r26 hr27) (args4 Z Z Z Z)) Z ?_)
 rintro _ M28 _ hle29 ⟨_,⟨rfl,rfl⟩,rfl⟩
 exact WL.a1 (Ns (qa (Uv 0) (Nt (Cr (Tr (Qa (Dr (Rf h [[(g0, .cells #[v0_0,(Iv a0.at_),(GV r26)] 99 (0,0))]] Z (Rs Z Z) hle29 ⟨Z,Z⟩))))))))
 refine Ck (Tc (Sr (qu (slV v0_0 1 (a0.at_).toNat ((a0.b.length:Int)).toNat) (Lb 0 pl31 Z Z Z) ?_)))
 obtain ⟨hg30,h⟩:=grd_i h
 obtain ⟨p31,cs32,hat33,hrc34,hhas35⟩:=h23.at hg30.1 hg30.2 (by decide)
 obtain rfl:=hrc34
 refine qu (.pointer (some p31)) (PO.indexAddr (n:=(sub a0.b a0.at_ (a0.b.length:Int)).length) Tryz.underlying31 sz5 Z Z hg30.1 hg30.2 hat33) (qu (Yv (rd (sub a0.b a0.at_ (a0.b.length:Int)) (0:Int))) (PO.loadM pl5 Z (IM.has0 hhas35)) (qu (Yv (shrI .u8 (rd (sub a0.b a0.at_ (a0.b.length:Int)) (0:Int)) (6:Int))) (PO.shr Z Z (by decide)) ?_))
 obtain ⟨hg37,h⟩:=grd_i h
 refine qu (Iv (shlI .i64 1 (shrI .u8 (rd (sub a0.b a0.at_ (a0.b.length:Int)) (0:Int)) (6:Int)))) (PO.shl Z Z hg37) (qa (Iv (shlI .i64 1 (shrI .u8 (rd (sub a0.b a0.at_ (a0.b.length:Int)) (0:Int)) (6:Int)))) (Nt (Cs (Sr (qu (slV v0_0 1 (a0.at_).toNat ((a0.b.length:Int)).toNat) (Lb 0 pl31 Z Z Z) (qu (Iv ((sub a0.b a0.at_ (a0.b.length:Int)).length:Int)) (PO.lenS Tryz.underlying31 Z h23.len) (qm (Iv (shlI .i64 1 (shrI .u8 (rd (sub a0.b a0.at_ (a0.b.length:Int)) (0:Int)) (6:Int)))) (qu (Bv (decide (((sub a0.b a0.at_ (a0.b.length:Int)).length:Int)<(shlI .i64 1 (shrI .u8 (rd (sub a0.b a0.at_ (a0.b.length:Int)) (0:Int)) (6:Int)))))) (PO.lss Z Z) (Nt (Ch h Z (fun hb38 h=> ?_) (fun hb38 h=> ?_)))))))))))
 refine Sr (qM (pt g0 0) (hρ 0) (qM (pt g0 0) (hρ 0) (qu (pt g0 0) (Nk Z) (qu (pt g0 1) (Fa fo99_1 Z Z) (qu (Iv a0.at_) (Lb 1 pl3 Z Z Z) ?_)))))
 obtain ⟨r39,hr40,h⟩:=bnd h
 refine WL.f1 (We (Cb co55 (f_wire_Reader_fail_ok a0 (⟨#[110,117,109]⟩:ByteArray) a0.at_ (3:Int) _ _ _ h0_0 r39 hr40) (args4 Z Z Z Z)) Z ?_)
 rintro _ M41 _ hle42 ⟨_,⟨rfl,rfl⟩,rfl⟩
 exact WL.a1 (Ns (qa (Uv 0) (Nt (Cr (Tr (Qa (Dr (Rf h [[(g0, .cells #[v0_0,(Iv a0.at_),(GV r39)] 99 (0,0))]] Z (Rs Z Z) hle42 ⟨Z,Z⟩))))))))
 refine Ck (Tc (Sr (qu (slV v0_0 1 (a0.at_).toNat ((a0.b.length:Int)).toNat) (Lb 0 pl31 Z Z Z) ?_)))
 obtain ⟨hg43,h⟩:=grd_i h
 obtain ⟨p44,cs45,hat46,hrc47,hhas48⟩:=h23.at hg43.1 hg43.2 (by decide)
 obtain rfl:=hrc47
 refine qu (.pointer (some p44)) (PO.indexAddr (n:=(sub a0.b a0.at_ (a0.b.length:Int)).length) Tryz.underlying31 sz5 Z Z hg43.1 hg43.2 hat46) (qu (Yv (rd (sub a0.b a0.at_ (a0.b.length:Int)) (0:Int))) (PO.loadM pl5 Z (IM.has0 hhas48)) (qu (Yv (andI .u8 (rd (sub a0.b a0.at_ (a0.b.length:Int)) (0:Int)) (63:Int))) (PO.and Z Z) (qu (Uv (IntKind.u64.wrap (andI .u8 (rd (sub a0.b a0.at_ (a0.b.length:Int)) (0:Int)) (63:Int)))) (PO.conv us5 Tryz.underlying97 Z) (We (Al ze97 Z) Z ?_))))
 rintro _ _ _ - ⟨rfl,g50,rfl,rfl⟩
 refine We (Al ze3 Z) Z ?_
 rintro _ _ _ - ⟨rfl,g51,rfl,rfl⟩
 refine WL.f1 (We (Es (Uv (IntKind.u64.wrap (andI .u8 (rd (sub a0.b a0.at_ (a0.b.length:Int)) (0:Int)) (63:Int)))) [(Uv (IntKind.u64.wrap (andI .u8 (rd (sub a0.b a0.at_ (a0.b.length:Int)) (0:Int)) (63:Int))))] Z sz97 Z Z Z Z Z Z) Z ?_)
 rintro _ _ _ - ⟨rfl,rfl⟩
 refine WL.f1 (We (Es (Iv 1) [(Iv 1)] Z sz3 Z Z Z Z Z Z) Z ?_)
 rintro _ _ _ - ⟨rfl,rfl⟩
 refine Ns (qu (.func (.func 79) #[] #[(pt g50 0),(pt g24 0),(pt g51 0)]) (PO.makeFunc2 (args0) (args3 (show ev _ _=(pt g50 0) from Z) (show ev _ _=(pt g24 0) from Z) (show ev _ _=(pt g51 0) from Z))) (qa (.func (.func 79) #[] #[(pt g50 0),(pt g24 0),(pt g51 0)]) (Ns (qa (Uv 0) (Nt ?_)))))
 obtain ⟨j55,hj55,h⟩:=bnd h
 refine Jf (fun(p_:(Int×Int×Int)) ρ' M' H'=>match p_ with |(x52,x53,x54)=>M.le M'∧[(g51, .cells #[(Iv x53)] 3 (0,0))]::[(g50, .cells #[(Uv x54)] 97 (0,0))]::[(g24, .cells #[(slV v0_0 1 (a0.at_).toNat ((a0.b.length:Int)).toNat)] 31 (0,0))]::[(g0, .cells #[v0_0,(Iv a0.at_),(GV a0.err)] 99 (0,0))]::F=H'∧ρ' 0=(pt g0 0)∧ρ' 1=(Uv a1)∧ρ' 6=(Iv (shlI .i64 1 (shrI .u8 (rd (sub a0.b a0.at_ (a0.b.length:Int)) (0:Int)) (6:Int))))∧ρ' 7=(pt g50 0)∧ρ' 10=(Uv x52)) j55 ?_ ?_
 have h:=hj55
 refine Sr (qm (Iv (shlI .i64 1 (shrI .u8 (rd (sub a0.b a0.at_ (a0.b.length:Int)) (0:Int)) (6:Int)))) (Nt (Bk ?_)))
 obtain ⟨j59,hj59,h⟩:=bnd h
 refine WC.joinE (fun(p_:(Int×Int×Int)) ρ' M' H'=>match p_ with |(x56,x57,x58)=>M.le M'∧[(g51, .cells #[(Iv x57)] 3 (0,0))]::[(g50, .cells #[(Uv x58)] 97 (0,0))]::[(g24, .cells #[(slV v0_0 1 (a0.at_).toNat ((a0.b.length:Int)).toNat)] 31 (0,0))]::[(g0, .cells #[v0_0,(Iv a0.at_),(GV a0.err)] 99 (0,0))]::F=H'∧ρ' 0=(pt g0 0)∧ρ' 1=(Uv a1)∧ρ' 6=(Iv (shlI .i64 1 (shrI .u8 (rd (sub a0.b a0.at_ (a0.b.length:Int)) (0:Int)) (6:Int))))∧ρ' 7=(pt g50 0)∧ρ' 9=(.func (.func 79) #[] #[(pt g50 0),(pt g24 0),(pt g51 0)])∧ρ' 10=(Uv x56)) j59 ?_ ?_
 have h359:=h
 have h:=hj59
 refine Bk ?_
 obtain ⟨j63,hj63,h⟩:=bnd h
 refine WC.joinE (fun(p_:(Int×Int×Int)) ρ' M' H'=>match p_ with |(x60,x61,x62)=>M.le M'∧[(g51, .cells #[(Iv x61)] 3 (0,0))]::[(g50, .cells #[(Uv x62)] 97 (0,0))]::[(g24, .cells #[(slV v0_0 1 (a0.at_).toNat ((a0.b.length:Int)).toNat)] 31 (0,0))]::[(g0, .cells #[v0_0,(Iv a0.at_),(GV a0.err)] 99 (0,0))]::F=H'∧ρ' 0=(pt g0 0)∧ρ' 1=(Uv a1)∧ρ' 6=(Iv (shlI .i64 1 (shrI .u8 (rd (sub a0.b a0.at_ (a0.b.length:Int)) (0:Int)) (6:Int))))∧ρ' 7=(pt g50 0)∧ρ' 9=(.func (.func 79) #[] #[(pt g50 0),(pt g24 0),(pt g51 0)])∧ρ' 10=(Uv x60)) j63 ?_ ?_
 have h363:=h
 have h:=hj63
 refine Bk (Cs (Bk (Cs (Cs (Sr (qu (Bv (decide ((shlI .i64 1 (shrI .u8 (rd (sub a0.b a0.at_ (a0.b.length:Int)) (0:Int)) (6:Int)))=8))) (PO.eql Z Z) (qa (Bv (decide ((shlI .i64 1 (shrI .u8 (rd (sub a0.b a0.at_ (a0.b.length:Int)) (0:Int)) (6:Int)))=8))) (Nt (Ch h Z (fun hb64 h=> ?_) (fun hb64 h=> ?_))))))))))
 refine WC.exit (WQ.thenE (WQ.thenE (WQ.blockH (Tc (Sr (qm (.func (.func 79) #[] #[(pt g50 0),(pt g24 0),(pt g51 0)]) ?_))))))
 obtain ⟨⟨r65,r66⟩,hr67,h⟩:=bnd h
 refine Wb (Wb (We (EO.callV3 (first:=#[]) (cap:=#[(pt g50 0),(pt g24 0),(pt g51 0)]) co79 Z (f_wire_Reader_Num_1_ok (IntKind.u64.wrap (andI .u8 (rd (sub a0.b a0.at_ (a0.b.length:Int)) (0:Int)) (63:Int))) (sub a0.b a0.at_ (a0.b.length:Int)) (1:Int) _ _ _ _ _ h23 (r65,r66) hr67) (argsV0 Z)) Z ?_))
 rintro _ M68 _ hle69 ⟨_,⟨rfl,rfl⟩,rfl⟩
 refine WL.a3 (Ns (qm (.func (.func 79) #[] #[(pt g50 0),(pt g24 0),(pt g51 0)]) ?_))
 obtain ⟨⟨r70,r71⟩,hr72,h⟩:=bnd h
 refine Wb (Wb (Wb ?_))
 have h23:=h23.mono hle69
 refine We (EO.callV3 (first:=#[]) (cap:=#[(pt g50 0),(pt g24 0),(pt g51 0)]) co79 Z (f_wire_Reader_Num_1_ok r65 (sub a0.b a0.at_ (a0.b.length:Int)) r66 _ _ _ _ _ h23 (r70,r71) hr72) (argsV0 Z)) Z ?_
 rintro _ M73 _ hle74 ⟨_,⟨rfl,rfl⟩,rfl⟩
 refine WL.a3 (Ns (qm (.func (.func 79) #[] #[(pt g50 0),(pt g24 0),(pt g51 0)]) ?_))
 obtain ⟨⟨r75,r76⟩,hr77,h⟩:=bnd h
 refine Wb (Wb (Wb ?_))
 have h23:=h23.mono hle74
 refine We (EO.callV3 (first:=#[]) (cap:=#[(pt g50 0),(pt g24 0),(pt g51 0)]) co79 Z (f_wire_Reader_Num_1_ok r70 (sub a0.b a0.at_ (a0.b.length:Int)) r71 _ _ _ _ _ h23 (r75,r76) hr77) (argsV0 Z)) Z ?_
 rintro _ M78 _ hle79 ⟨_,⟨rfl,rfl⟩,rfl⟩
 refine WL.a3 (Ns (qm (.func (.func 79) #[] #[(pt g50 0),(pt g24 0),(pt g51 0)]) ?_))
 obtain ⟨⟨r80,r81⟩,hr82,h⟩:=bnd h
 refine Wb (Wb (Wb ?_))
 have h23:=h23.mono hle79
 refine We (EO.callV3 (first:=#[]) (cap:=#[(pt g50 0),(pt g24 0),(pt g51 0)]) co79 Z (f_wire_Reader_Num_1_ok r75 (sub a0.b a0.at_ (a0.b.length:Int)) r76 _ _ _ _ _ h23 (r80,r81) hr82) (argsV0 Z)) Z ?_
 rintro _ M83 _ hle84 ⟨_,⟨rfl,rfl⟩,rfl⟩
 refine WL.a3 (Nt (Cg (qm (Uv 0) (qu (Uv (IntKind.u64.wrap ((0:Int)+(1073725440:Int)))) (PO.add Z Z) (qa (Uv (IntKind.u64.wrap ((0:Int)+(1073725440:Int)))) (Wz (Bn (WQ.f3 (Qb (Qb (WQ.f3 ?_)))))))))))
 exact WQ.thenFE h ⟨(((hle69.trans hle74).trans hle79).trans hle84),Z,(hρ 0),(hρ 1),Z,Z,Z,Z⟩
 refine Ck (Tc (Cs (Sr (qu (Bv (decide ((shlI .i64 1 (shrI .u8 (rd (sub a0.b a0.at_ (a0.b.length:Int)) (0:Int)) (6:Int)))=4))) (PO.eql Z Z) (qa (Bv (decide ((shlI .i64 1 (shrI .u8 (rd (sub a0.b a0.at_ (a0.b.length:Int)) (0:Int)) (6:Int)))=4))) (Nt (Ch h Z (fun hb85 h=> ?_) (fun hb85 h=> ?_))))))))
 exact WC.exit (WQ.thenE (WQ.thenE (WQ.blockM Z (WQ.thenE (WQ.blockH (WQ.thenFE h ⟨lr,Z,(hρ 0),(hρ 1),Z,Z,Z,Z⟩))))))
 refine Ck (Tc (Sr (qu (Bv (decide ((shlI .i64 1 (shrI .u8 (rd (sub a0.b a0.at_ (a0.b.length:Int)) (0:Int)) (6:Int)))=2))) (PO.eql Z Z) (qa (Bv (decide ((shlI .i64 1 (shrI .u8 (rd (sub a0.b a0.at_ (a0.b.length:Int)) (0:Int)) (6:Int)))=2))) (Nt (Ch h Z (fun hb86 h=> ?_) (fun hb86 h=> ?_)))))))
 refine WC.exit (WQ.thenE (WQ.blockM Z (WQ.thenE (WQ.blockM Z (WQ.thenE ?_)))))
 have h:=KK.early h h363
 exact WQ.blockH (WQ.thenFE h ⟨lr,Z,(hρ 0),(hρ 1),Z,Z,Z,Z⟩)
 refine Ck (Tc (WC.exit (WQ.blockM Z (WQ.thenE (WQ.blockM Z (WQ.thenE ?_))))))
 have h:=KK.early h h363
 refine WQ.blockM Z (WQ.thenE ?_)
 have h:=KK.early h h359
 refine WQ.blockH ?_
 obtain rfl:=oi h
 exact Tj ⟨lr,Z,(hρ 0),(hρ 1),Z,Z,Z⟩
 rintro ⟨x60,x61,x62⟩ ρ63 M63 H63 rfl ⟨hle63,rfl,hs63_0,hs63_1,hs63_6,hs63_7,hs63_9,hs63_10⟩
 have h:=(Sum.elim_inl _ _ _).symm.trans h
 refine Sr (qM (.func (.func 79) #[] #[(pt g50 0),(pt g24 0),(pt g51 0)]) hs63_9 ?_)
 obtain ⟨⟨r87,r88⟩,hr89,h⟩:=bnd h
 refine Wb (Wb ?_)
 have h23:=h23.mono hle63
 refine We (EO.callV3 (first:=#[]) (cap:=#[(pt g50 0),(pt g24 0),(pt g51 0)]) co79 Z (f_wire_Reader_Num_1_ok x62 (sub a0.b a0.at_ (a0.b.length:Int)) x61 _ _ _ _ _ h23 (r87,r88) hr89) (argsV0 Z)) Z ?_
 rintro _ M90 _ hle91 ⟨_,⟨rfl,rfl⟩,rfl⟩
 refine WL.a3 (Ns (qM (.func (.func 79) #[] #[(pt g50 0),(pt g24 0),(pt g51 0)]) hs63_9 ?_))
 obtain ⟨⟨r92,r93⟩,hr94,h⟩:=bnd h
 refine Wb (Wb (Wb ?_))
 have h23:=h23.mono hle91
 refine We (EO.callV3 (first:=#[]) (cap:=#[(pt g50 0),(pt g24 0),(pt g51 0)]) co79 Z (f_wire_Reader_Num_1_ok r87 (sub a0.b a0.at_ (a0.b.length:Int)) r88 _ _ _ _ _ h23 (r92,r93) hr94) (argsV0 Z)) Z ?_
 rintro _ M95 _ hle96 ⟨_,⟨rfl,rfl⟩,rfl⟩
 refine WL.a3 (Nt (Cg (qM (Uv x60) hs63_10 (qu (Uv (IntKind.u64.wrap (x60+16320))) (PO.add Z Z) (qa (Uv (IntKind.u64.wrap (x60+16320))) (Wz (Bn (WQ.f3 (Qb (Qb (WQ.f3 ?_)))))))))))
 exact WQ.thenFE h ⟨((hle63.trans hle91).trans hle96),Z,hs63_0,hs63_1,hs63_6,hs63_7,hs63_9,Z⟩
 rintro ⟨x56,x57,x58⟩ ρ59 M59 H59 rfl ⟨hle59,rfl,hs59_0,hs59_1,hs59_6,hs59_7,hs59_9,hs59_10⟩
 have h:=(Sum.elim_inl _ _ _).symm.trans h
 refine Cs (Sr (qM (.func (.func 79) #[] #[(pt g50 0),(pt g24 0),(pt g51 0)]) hs59_9 ?_))
 obtain ⟨⟨r97,r98⟩,hr99,h⟩:=bnd h
 refine Wb (Wb ?_)
 have h23:=h23.mono hle59
 refine We (EO.callV3 (first:=#[]) (cap:=#[(pt g50 0),(pt g24 0),(pt g51 0)]) co79 Z (f_wire_Reader_Num_1_ok x58 (sub a0.b a0.at_ (a0.b.length:Int)) x57 _ _ _ _ _ h23 (r97,r98) hr99) (argsV0 Z)) Z ?_
 rintro _ M100 _ hle101 ⟨_,⟨rfl,rfl⟩,rfl⟩
 refine WL.a3 (Nt (Cg (qM (Uv x56) hs59_10 (qu (Uv (IntKind.u64.wrap (x56+64))) (PO.add Z Z) (qa (Uv (IntKind.u64.wrap (x56+64))) (Nt (WC.exit (WQ.blockH (WQ.f3 (Qb (Qb ?_)))))))))))
 refine WQ.f3 ?_
 obtain rfl:=oi h
 exact Tj ⟨(hle59.trans hle101),Z,hs59_0,hs59_1,hs59_6,hs59_7,Z⟩
 obtain ⟨x52,x53,x54⟩:=j55
 rintro ρ55 M55 H55 ⟨hle55,rfl,hs55_0,hs55_1,hs55_6,hs55_7,hs55_10⟩
 refine Cs (Bk (Sr (qu (Uv x54) (Lb 1 pl97 hs55_7 Z Z) (qM (Uv x52) hs55_10 (qu (Bv (decide (x54<x52))) (PO.lss Z Z) (qa (Bv (decide (x54<x52))) (Nt (Ch h Z (fun hb102 h=> ?_) (fun hb102 h=> ?_)))))))))
 refine Sr (qM (pt g0 0) hs55_0 (qM (pt g0 0) hs55_0 (qu (pt g0 0) (Nk Z) (qu (pt g0 1) (Fa fo99_1 Z Z) (qu (Iv a0.at_) (Lb 3 pl3 Z Z Z) ?_)))))
 obtain ⟨r103,hr104,h⟩:=bnd h
 refine WL.f3 ?_
 have h0_0:=h0_0.mono hle55
 refine We (Cb co55 (f_wire_Reader_fail_ok a0 (⟨#[110,117,109]⟩:ByteArray) a0.at_ (5:Int) _ _ _ h0_0 r103 hr104) (args4 Z Z Z Z)) Z ?_
 rintro _ M105 _ hle106 ⟨_,⟨rfl,rfl⟩,rfl⟩
 refine WL.a1 (Ns (qa (Uv 0) (Nt (Cr (Br (Tr (Qa (Dr (Qa (Dr (Qa ?_)))))))))))
 exact Dr (Rf h [[(g0, .cells #[v0_0,(Iv a0.at_),(GV r103)] 99 (0,0))]] Z (Rs Z Z) (hle55.trans hle106) ⟨Z,Z⟩)
 refine Sr (qu (Uv x54) (Lb 1 pl97 hs55_7 Z Z) (qM (Uv a1) hs55_1 (qu (Bv (decide (a1<x54))) (PO.gtr Z Z) (qa (Bv (decide (a1<x54))) (Nt (Ch h Z (fun hb107 h=> ?_) (fun hb107 h=> ?_)))))))
 refine Sr (qM (pt g0 0) hs55_0 (qM (pt g0 0) hs55_0 (qu (pt g0 0) (Nk Z) (qu (pt g0 1) (Fa fo99_1 Z Z) (qu (Iv a0.at_) (Lb 3 pl3 Z Z Z) ?_)))))
 obtain ⟨r108,hr109,h⟩:=bnd h
 refine WL.f3 ?_
 have h0_0:=h0_0.mono hle55
 refine We (Cb co55 (f_wire_Reader_fail_ok a0 (⟨#[110,117,109]⟩:ByteArray) a0.at_ (6:Int) _ _ _ h0_0 r108 hr109) (args4 Z Z Z Z)) Z ?_
 rintro _ M110 _ hle111 ⟨_,⟨rfl,rfl⟩,rfl⟩
 refine WL.a1 (Ns (qa (Uv 0) (Nt (Cr (Br (Tr (Qa (Dr (Qa (Dr (Qa ?_)))))))))))
 exact Dr (Rf h [[(g0, .cells #[v0_0,(Iv a0.at_),(GV r108)] 99 (0,0))]] Z (Rs Z Z) (hle55.trans hle111) ⟨Z,Z⟩)
 refine Ck (Bn (Tc (Sr (qM (pt g0 0) hs55_0 (qu (pt g0 0) (Nk Z) (qu (pt g0 1) (Fa fo99_1 Z Z) (qu (Iv a0.at_) (Lb 3 pl3 Z Z Z) (qM (Iv (shlI .i64 1 (shrI .u8 (rd (sub a0.b a0.at_ (a0.b.length:Int)) (0:Int)) (6:Int)))) hs55_6 (qu (Iv (IntKind.i64.wrap (a0.at_+(shlI .i64 1 (shrI .u8 (rd (sub a0.b a0.at_ (a0.b.length:Int)) (0:Int)) (6:Int)))))) (PO.add Z Z) (qu (pt g0 0) (Nk Z) (qu (pt g0 1) (Fa fo99_1 Z Z) ?_)))))))))))
 refine WL.f3 (We (Es (Iv (IntKind.i64.wrap (a0.at_+(shlI .i64 1 (shrI .u8 (rd (sub a0.b a0.at_ (a0.b.length:Int)) (0:Int)) (6:Int)))))) [v0_0,(Iv (IntKind.i64.wrap (a0.at_+(shlI .i64 1 (shrI .u8 (rd (sub a0.b a0.at_ (a0.b.length:Int)) (0:Int)) (6:Int)))))),(GV a0.err)] Z sz3 Z Z Z Z Z Z) Z ?_)
 rintro _ _ _ - ⟨rfl,rfl⟩
 exact Ns (qu (Uv x54) (Lb 2 pl97 hs55_7 Z Z) (qa (Uv x54) (Nt (Cr (Qa (Dr (Qa (Dr (Qa (Dr (Rf h [[(g0, .cells #[v0_0,(Iv (IntKind.i64.wrap (a0.at_+(shlI .i64 1 (shrI .u8 (rd (sub a0.b a0.at_ (a0.b.length:Int)) (0:Int)) (6:Int)))))),(GV a0.err)] 99 (0,0))]] Z (Rs Z Z) hle55 ⟨Z,Z⟩)))))))))))
 exact Tz
 exact Tz
noncomputable def f_wire_Reader_Int (a0:T_wire_Reader) (a1:Int):Option (Int×Int×GErr):=
 ((f_wire_Reader_Num a0 (IntKind.u64.wrap (if a1<(0:Int)then(0:Int)else a1))).bind fun(r21,r22,r23)=>(some (IntKind.i64.wrap r21,r22,r23)))
def f_wire_Reader_Int_post (a0:T_wire_Reader) (a1:Int) (v0_0:Value) (g0:Nat):(Int×Int×GErr)→Value→IM→HL→Prop:=
 fun(p_:(Int×Int×GErr)) (v:Value) (M':IM) (H':HL)=>match p_ with |(r0,r1,r2)=>(.int .i64 r0)=v∧H'=[[(g0, .cells #[v0_0,(.int .i64 r1),(GV r2)] 99 (0,0))]]
theorem f_wire_Reader_Int_ok (a0:T_wire_Reader) (a1:Int) (M:IM) (v0_0:Value) (g0:Nat) (h0_0:RS (Kd.int .u8) M v0_0 a0.b) (res:(Int×Int×GErr)) (h:f_wire_Reader_Int a0 a1=some res):
 Tri Tryz.prog 21 #[(pt g0 0),(Iv a1)] M [[(g0, .cells #[v0_0,(Iv a0.at_),(GV a0.err)] 99 (0,0))]] (f_wire_Reader_Int_post a0 a1 v0_0 g0 res):=by
 unfold f_wire_Reader_Int at h
 refine Te Tryz.func21 Z Z ?_
 intro F ρ hρ
 refine Sr (qa (Iv 0) (Ns (qM (pt g0 0) (hρ 0) (qM (Iv a1) (hρ 1) (qu (Iv (if a1<0 then(0:Int)else a1)) (PO.max Z Z) (qu (Uv (IntKind.u64.wrap (if a1<0 then(0:Int)else a1))) (PO.conv us3 Tryz.underlying97 Z) ?_))))))
 obtain ⟨⟨r21,r22,r23⟩,hr24,h⟩:=bnd h
 refine We (Cb co54 (f_wire_Reader_Num_ok a0 (IntKind.u64.wrap (if a1<0 then(0:Int)else a1)) _ _ _ h0_0 (r21,r22,r23) hr24) (args2 Z Z)) Z ?_
 rintro _ M25 _ hle26 ⟨_,⟨rfl,rfl⟩,rfl⟩
 exact WL.a1 (qu (Iv (IntKind.i64.wrap r21)) (PO.conv us97 Tryz.underlying3 Z) (qa (Iv (IntKind.i64.wrap r21)) (Nt (Cr (Rf h [[(g0, .cells #[v0_0,(Iv r22),(GV r23)] 99 (0,0))]] Z (Rs Z Z) hle26 ⟨Z,Z⟩)))))
noncomputable def f_dump_Read_1 (a0q:T_wire_Reader):Option (Int×Int×GErr):=
 ((f_wire_Reader_Int a0q (1073741824:Int)).bind fun(r21,r22,r23)=>(some (r21,r22,r23)))
def f_dump_Read_1_post (a0q:T_wire_Reader) (v0q_0:Value) (g0 g0q:Nat):(Int×Int×GErr)→Value→IM→HL→Prop:=
 fun(p_:(Int×Int×GErr)) (v:Value) (M':IM) (H':HL)=>match p_ with |(r0,r1,r2)=>(.int .i64 r0)=v∧H'=[[(g0q, .cells #[v0q_0,(.int .i64 r1),(GV r2)] 99 (0,0))],[(g0, .cells #[(.pointer (some ⟨g0q,0,none⟩))] 67 (0,0))]]
theorem f_dump_Read_1_ok (a0q:T_wire_Reader) (M:IM) (v0q_0:Value) (g0 g0q:Nat) (h0q_0:RS (Kd.int .u8) M v0q_0 a0q.b) (res:(Int×Int×GErr)) (h:f_dump_Read_1 a0q=some res):
 Tri Tryz.prog 20 #[(pt g0 0)] M [[(g0q, .cells #[v0q_0,(Iv a0q.at_),(GV a0q.err)] 99 (0,0))],[(g0, .cells #[(pt g0q 0)] 67 (0,0))]] (f_dump_Read_1_post a0q v0q_0 g0 g0q res):=by
 unfold f_dump_Read_1 at h
 refine Te Tryz.func20 Z Z ?_
 intro F ρ hρ
 refine Sr (qa (Iv 0) (Ns (qu (pt g0q 0) (Lb 1 pl67 (hρ 0) Z Z) ?_)))
 obtain ⟨⟨r21,r22,r23⟩,hr24,h⟩:=bnd h
 refine We (Cb co21 (f_wire_Reader_Int_ok a0q (1073741824:Int) _ _ _ h0q_0 (r21,r22,r23) hr24) (args2 Z Z)) Z ?_
 rintro _ M25 _ hle26 ⟨_,⟨rfl,rfl⟩,rfl⟩
 exact WL.a1 (qa (Iv r21) (Nt (Cr (Rf h [[(g0q, .cells #[v0q_0,(Iv r22),(GV r23)] 99 (0,0))],[(g0, .cells #[(pt g0q 0)] 67 (0,0))]] Z (Rs Z Z) hle26 ⟨Z,Z⟩))))
noncomputable def f_wire_Reader_Err (a0:T_wire_Reader):Option GErr:=
 (some a0.err)
def f_wire_Reader_Err_post (a0:T_wire_Reader) (v0_0:Value) (g0:Nat):GErr→Value→IM→HL→Prop:=
 fun(r0:GErr) (v:Value) (M':IM) (H':HL)=>(GV r0)=v∧H'=[[(g0, .cells #[v0_0,(.int .i64 a0.at_),(GV a0.err)] 99 (0,0))]]
theorem f_wire_Reader_Err_ok (a0:T_wire_Reader) (M:IM) (v0_0:Value) (g0:Nat) (h0_0:RS (Kd.int .u8) M v0_0 a0.b) (res:GErr) (h:f_wire_Reader_Err a0=some res):
 Tri Tryz.prog 57 #[(pt g0 0)] M [[(g0, .cells #[v0_0,(Iv a0.at_),(GV a0.err)] 99 (0,0))]] (f_wire_Reader_Err_post a0 v0_0 g0 res):=by
 unfold f_wire_Reader_Err at h
 refine Te Tryz.func57 Z Z ?_
 intro F ρ hρ
 exact Sr (qa (GV GErr.nil) (Ns (qM (pt g0 0) (hρ 0) (qu (pt g0 0) (Nk Z) (qu (pt g0 2) (Fa fo99_2 Z Z) (qu (GV a0.err) (Lb 0 pl33 Z Z Z) (qa (GV a0.err) (Nt (Cr (Rf h [[(g0, .cells #[v0_0,(Iv a0.at_),(GV a0.err)] 99 (0,0))]] Z (Rs Z Z) lr ⟨Z,Z⟩))))))))))
noncomputable def f_slices_Clone_byte_byte (a0:(List Int)):Option (List Int):=
 (grd (([]:List Int).length+a0.length≤274877906944) (some (([]:List Int)++a0)))
def f_slices_Clone_byte_byte_post (a0:(List Int)) (v0:Value):(List Int)→Value→IM→HL→Prop:=
 fun(r0:(List Int)) (v:Value) (M':IM) (H':HL)=>∃ vz0 cz0,vz0=v∧H'=[cz0]∧OwnS (Kd.int .u8) M' vz0 r0 cz0
theorem f_slices_Clone_byte_byte_ok (a0:(List Int)) (M:IM) (v0:Value) (h0:RS (Kd.int .u8) M v0 a0) (res:(List Int)) (h:f_slices_Clone_byte_byte a0=some res):
 Tri Tryz.prog 56 #[v0] M [] (f_slices_Clone_byte_byte_post a0 v0 res):=by
 unfold f_slices_Clone_byte_byte at h
 refine Te Tryz.func56 Z Z ?_
 intro F ρ hρ
 refine Sr (qa Zs (Nt (Cs (Sr (qM v0 (hρ 0) (qu (Bv (nilS v0)) (PO.sliceNil Tryz.underlying31 Z h0.len Z) (Nt (Cd (b:=nilS v0) Z (fun hb21=> ?_) (fun hb21=> ?_)))))))))
 obtain rfl:=h0.nilxs (by decide) hb21
 have h:=Eq.trans (a:=((some []):Option (List Int))) (by simp [grd]) h
 exact Sr (qa Zs (Nt (Cr (Tr (WQ.e0 (Rf h [[]] Z (Rs Z Z) lr ⟨Zs,[],Z,Z,(OwnS.nil _ _)⟩))))))
 refine Ck (Tc (Sr (We (EO.buildSliceL (cl:=[]) Tryz.underlying31 iz5 Z Pz Z) Z ?_)))
 rintro _ _ _ - ⟨rfl,g23,rfl,rfl⟩
 have h25:OwnS (Kd.int .u8) M (.slice (some ⟨g23,0,none⟩) 0 0) [] [(g23, .cells #[] 5 (0,0))]:=OwnS.rows (css:=[]) Rows.nil Z Z
 refine qM v0 (hρ 0) ?_
 obtain ⟨hg29,h⟩:=grd_i h
 refine We (EO.append (dd:=(Kd.int .u8)) (xs:=[]) (ys:=a0) Tryz.underlying31 Tryz.underlying31 in5 Z (appB (by decide) hg29) (by decide) Z Z h25 (h0.src _)) Z ?_
 rintro v28 _ _ - ⟨rfl,c26,rfl,h27⟩
 exact qa v28 (Nt (Cr (Rf h [c26] Z (Rs Z Z) lr ⟨v28,c26,Z,Z,h27⟩)))
noncomputable def f_wire_Reader_Text (a0:T_wire_Reader) (a1:Int):Option ((List Int)×Int×GErr):=
 ((f_wire_Reader_Int a0 a1).bind fun(r21,r22,r23)=>(if(!r23.isNil)=true then(some ([],r22,r23))else(if(decide ((IntKind.i64.wrap ((a0.b.length:Int)- r22))<r21))=true then((f_wire_Reader_fail (⟨a0.b,a0.at_,r23⟩:T_wire_Reader) (⟨#[116,101,120,116]⟩:ByteArray) a0.at_ (3:Int)).bind fun r31=>(some ([],a0.at_,r31)))else(grd (0≤IntKind.i64.wrap ((IntKind.i64.wrap (r22+r21))- r21)∧IntKind.i64.wrap ((IntKind.i64.wrap (r22+r21))- r21)≤IntKind.i64.wrap (r22+r21)∧IntKind.i64.wrap (r22+r21)≤(a0.b.length:Int)) ((f_slices_Clone_byte_byte (sub a0.b (IntKind.i64.wrap ((IntKind.i64.wrap (r22+r21))- r21)) (IntKind.i64.wrap (r22+r21)))).bind fun r38=>(some (r38,IntKind.i64.wrap (r22+r21),r23)))))))
def f_wire_Reader_Text_post (a0:T_wire_Reader) (a1:Int) (v0_0:Value) (g0:Nat):((List Int)×Int×GErr)→Value→IM→HL→Prop:=
 fun(p_:((List Int)×Int×GErr)) (v:Value) (M':IM) (H':HL)=>match p_ with |(r0,r1,r2)=>∃ vz0 cz0,vz0=v∧H'=[[(g0, .cells #[v0_0,(.int .i64 r1),(GV r2)] 99 (0,0))],cz0]∧OwnS (Kd.int .u8) M' vz0 r0 cz0
theorem f_wire_Reader_Text_ok (a0:T_wire_Reader) (a1:Int) (M:IM) (v0_0:Value) (g0:Nat) (h0_0:RS (Kd.int .u8) M v0_0 a0.b) (res:((List Int)×Int×GErr)) (h:f_wire_Reader_Text a0 a1=some res):
 Tri Tryz.prog 23 #[(pt g0 0),(Iv a1)] M [[(g0, .cells #[v0_0,(Iv a0.at_),(GV a0.err)] 99 (0,0))]] (f_wire_Reader_Text_post a0 a1 v0_0 g0 res):=by
 unfold f_wire_Reader_Text at h
 refine Te Tryz.func23 Z Z ?_
 intro F ρ hρ
 refine Sr (qa Zs (Ns (qM (pt g0 0) (hρ 0) (qu (pt g0 0) (Nk Z) (qu (pt g0 1) (Fa fo99_1 Z Z) (qu (Iv a0.at_) (Lb 0 pl3 Z Z Z) (qa (Iv a0.at_) (Ns (qM (pt g0 0) (hρ 0) (qM (Iv a1) (hρ 1) ?_))))))))))
 obtain ⟨⟨r21,r22,r23⟩,hr24,h⟩:=bnd h
 refine We (Cb co21 (f_wire_Reader_Int_ok a0 a1 _ _ _ h0_0 (r21,r22,r23) hr24) (args2 Z Z)) Z ?_
 rintro _ M25 _ hle26 ⟨_,⟨rfl,rfl⟩,rfl⟩
 refine WL.a1 (qa (Iv r21) (Nt (Cs (Sr (qM (pt g0 0) (hρ 0) (qu (pt g0 0) (Nk Z) (qu (pt g0 2) (Fa fo99_2 Z Z) (qu (GV r23) (Lb 0 pl33 Z Z Z) (qu (Bv (!r23.isNil)) (PO.errNotNil Tryz.underlying33 Z) (Nt (Ch h Z (fun hb28 h=> ?_) (fun hb28 h=> ?_))))))))))))
 exact Sr (qa Zs (Nt (Cr (Tr (WQ.e0 (Qa (Rf h [[(g0, .cells #[v0_0,(Iv r22),(GV r23)] 99 (0,0))],[]] Z (Rs Z Z) hle26 ⟨Zs,[],Z,Z,(OwnS.nil _ _)⟩)))))))
 refine Ck (Tc (Cs (Cs (WC.draw [0,0,2,6,14,30,0,64,192,448,1022,2047] (.pure 0 (.pure 1 (.pure 2 (.pure 3 (.pure 4 (.pure 5 (.pure 6 (.pure 7 (.pure 8 (.pure 9 (.pure 10 (.pure 11 .done)))))))))))) mixed (by kernel_rfl) (qt (Iv r21) Z (Mv Z) (qt (pt g0 0) Z (Mv (hρ 0)) (qt (pt g0 0) Z (Nk Z) (qt (pt g0 0) Z (Fa fo99_0 Z Z) (qt v0_0 Z (Lb 0 pl31 Z Z Z) ?_)))))))))
 have h0_0:=h0_0.mono hle26
 refine qt (Iv (a0.b.length:Int)) Z (PO.lenS Tryz.underlying31 Z h0_0.len) (qt (pt g0 0) Z (Mv (hρ 0)) (qt (pt g0 0) Z (Nk Z) (qt (pt g0 1) Z (Fa fo99_1 Z Z) (qt (Iv r22) Z (Lb 0 pl3 Z Z Z) (qt (Iv (IntKind.i64.wrap ((a0.b.length:Int)- r22))) Z (PO.sub Z Z) (qt (Bv (decide ((IntKind.i64.wrap ((a0.b.length:Int)- r22))<r21))) Z (PO.gtr Z Z) (Ti (Tc (Ch h Z (fun hb30 h=> ?_) (fun hb30 h=> ?_))))))))))
 refine Sr (qM (pt g0 0) (hρ 0) (qm (Iv a0.at_) (qu (pt g0 0) (Nk Z) (qu (pt g0 1) (Fa fo99_1 Z Z) (We (Es (Iv a0.at_) [v0_0,(Iv a0.at_),(GV r23)] Z sz3 Z Z Z Z Z Z) Z ?_)))))
 rintro _ _ _ - ⟨rfl,rfl⟩
 refine Ns (qM (pt g0 0) (hρ 0) (qm (Iv a0.at_) ?_))
 obtain ⟨r31,hr32,h⟩:=bnd h
 refine We (Cb co55 (f_wire_Reader_fail_ok (⟨a0.b,a0.at_,r23⟩:T_wire_Reader) (⟨#[116,101,120,116]⟩:ByteArray) a0.at_ (3:Int) _ _ _ h0_0 r31 hr32) (args4 Z Z Z Z)) Z ?_
 rintro _ M33 _ hle34 ⟨_,⟨rfl,rfl⟩,rfl⟩
 exact WL.a1 (Ns (qa Zs (Nt (Cr (Tr (WQ.e0 (Qa (Rf h [[(g0, .cells #[v0_0,(Iv a0.at_),(GV r31)] 99 (0,0))],[]] Z (Rs Z Z) (hle26.trans hle34) ⟨Zs,[],Z,Z,(OwnS.nil _ _)⟩))))))))
 refine Ck (Tc (Sr (qM (pt g0 0) (hρ 0) (qu (pt g0 0) (Nk Z) (qu (pt g0 1) (Fa fo99_1 Z Z) (qu (Iv r22) (Lb 0 pl3 Z Z Z) (qm (Iv r21) (qu (Iv (IntKind.i64.wrap (r22+r21))) (PO.add Z Z) (qu (pt g0 0) (Nk Z) (qu (pt g0 1) (Fa fo99_1 Z Z) (We (Es (Iv (IntKind.i64.wrap (r22+r21))) [v0_0,(Iv (IntKind.i64.wrap (r22+r21))),(GV r23)] Z sz3 Z Z Z Z Z Z) Z ?_)))))))))))
 rintro _ _ _ - ⟨rfl,rfl⟩
 refine Nt (Cs (WC.draw [0,1,3,7,0,16,48,112,0,496,0,1024,3072,7168,16383,32767,65535] (.pure 0 (.pure 1 (.pure 2 (.pure 3 (.pure 4 (.pure 5 (.pure 6 (.pure 7 (.pure 8 (.pure 9 (.pure 10 (.pure 11 (.pure 12 (.pure 13 (.pure 14 (.alt 15 (.pure 16 .done) .none)))))))))))))))) mixed (by kernel_rfl) (qt (pt g0 0) Z (Mv (hρ 0)) (qt (pt g0 0) Z (Nk Z) (qt (pt g0 0) Z (Fa fo99_0 Z Z) (qt v0_0 Z (Lb 0 pl31 Z Z Z) (qt (pt g0 0) Z (Mv (hρ 0)) (qt (pt g0 0) Z (Nk Z) (qt (pt g0 1) Z (Fa fo99_1 Z Z) (qt (Iv (IntKind.i64.wrap (r22+r21))) Z (Lb 0 pl3 Z Z Z) (qt (Iv r21) Z (Mv Z) ?_)))))))))))
 refine qt (Iv (IntKind.i64.wrap ((IntKind.i64.wrap (r22+r21))- r21))) Z (PO.sub Z Z) (qt (pt g0 0) Z (Mv (hρ 0)) (qt (pt g0 0) Z (Nk Z) (qt (pt g0 1) Z (Fa fo99_1 Z Z) (qt (Iv (IntKind.i64.wrap (r22+r21))) Z (Lb 0 pl3 Z Z Z) ?_))))
 obtain ⟨hg36,h⟩:=grd_i h
 have h37:=h0_0.sub hg36.1 hg36.2.1 hg36.2.2
 refine qt (slV v0_0 1 (IntKind.i64.wrap ((IntKind.i64.wrap (r22+r21))- r21)).toNat (IntKind.i64.wrap (r22+r21)).toNat) Z (PO.slice (n:=a0.b.length) (l:=(IntKind.i64.wrap ((IntKind.i64.wrap (r22+r21))- r21)).toNat) (h:=(IntKind.i64.wrap (r22+r21)).toNat) Tryz.underlying31 sz5 Z h0_0.len h0_0.cap ⟨_,_,Z,hg36.1,Z⟩ ⟨_,_,Z,(Int.le_trans hg36.1 hg36.2.1),Z⟩ (Int.toNat_le_toNat hg36.2.1) (toNat_le_len hg36.2.2)) ?_
 obtain ⟨r38,hr39,h⟩:=bnd h
 refine Ta Z (Ca co56 (f_slices_Clone_byte_byte_ok (sub a0.b (IntKind.i64.wrap ((IntKind.i64.wrap (r22+r21))- r21)) (IntKind.i64.wrap (r22+r21))) _ _ h37 r38 hr39) (args1 Z)) Z ?_ ?_
 rintro _ M40 _ hle41 ⟨_,⟨vq42,cq42,rfl,rfl,hq42⟩,rfl⟩
 refine⟨(Sl Z), ?_⟩
 exact WT.a1 (qt vq42 Z (Ag Z) (Ti (Tc (Cr (Qa (Rf h [[(g0, .cells #[v0_0,(Iv (IntKind.i64.wrap (r22+r21))),(GV r23)] 99 (0,0))],cq42] Z (Rs Z Z) (hle26.trans hle41) ⟨vq42,cq42,Z,Z,hq42⟩))))))
 exact Tz
noncomputable def f_dump_Read_2 (a0q:T_wire_Reader):Option (ByteArray×Int×GErr):=
 ((f_wire_Reader_Text a0q (40:Int)).bind fun(r21,r22,r23)=>(some (strOfNums r21,r22,r23)))
def f_dump_Read_2_post (a0q:T_wire_Reader) (v0q_0:Value) (g0 g0q:Nat):(ByteArray×Int×GErr)→Value→IM→HL→Prop:=
 fun(p_:(ByteArray×Int×GErr)) (v:Value) (M':IM) (H':HL)=>match p_ with |(r0,r1,r2)=>(.string r0)=v∧H'=[[(g0q, .cells #[v0q_0,(.int .i64 r1),(GV r2)] 99 (0,0))],[(g0, .cells #[(.pointer (some ⟨g0q,0,none⟩))] 67 (0,0))]]
theorem f_dump_Read_2_ok (a0q:T_wire_Reader) (M:IM) (v0q_0:Value) (g0 g0q:Nat) (h0q_0:RS (Kd.int .u8) M v0q_0 a0q.b) (res:(ByteArray×Int×GErr)) (h:f_dump_Read_2 a0q=some res):
 Tri Tryz.prog 22 #[(pt g0 0)] M [[(g0q, .cells #[v0q_0,(Iv a0q.at_),(GV a0q.err)] 99 (0,0))],[(g0, .cells #[(pt g0q 0)] 67 (0,0))]] (f_dump_Read_2_post a0q v0q_0 g0 g0q res):=by
 unfold f_dump_Read_2 at h
 refine Te Tryz.func22 Z Z ?_
 intro F ρ hρ
 refine Sr (qa (Sv ⟨#[]⟩) (Ns (qu (pt g0q 0) (Lb 1 pl67 (hρ 0) Z Z) ?_)))
 obtain ⟨⟨r21,r22,r23⟩,hr24,h⟩:=bnd h
 refine We (Cb co23 (f_wire_Reader_Text_ok a0q (40:Int) _ _ _ h0q_0 (r21,r22,r23) hr24) (args2 Z Z)) Z ?_
 rintro _ M25 _ hle26 ⟨_,⟨vq27,cq27,rfl,rfl,hq27⟩,rfl⟩
 exact WL.a2 (qu (Sv (strOfNums r21)) (PO.b2s (ys:=r21) Tryz.underlying31 Tryz.underlying5 Tryz.underlying9 Z (hq27.src 1 Z)) (qa (Sv (strOfNums r21)) (Nt (Cr (Qa (Dr (Rf h [[(g0q, .cells #[v0q_0,(Iv r22),(GV r23)] 99 (0,0))],[(g0, .cells #[(pt g0q 0)] 67 (0,0))]] Z (Rs Z Z) hle26 ⟨Z,Z⟩)))))))
noncomputable def f_wire_Reader_Flag (a0:T_wire_Reader):Option (Bool×Int×GErr):=
 (((if(!a0.err.isNil)=true then(some (Sum.inl a0.err))else(if(decide ((a0.b.length:Int)≤a0.at_))=true then((f_wire_Reader_fail a0 (⟨#[102,108,97,103]⟩:ByteArray) a0.at_ (3:Int)).bind fun r25=>(some (Sum.inl r25)))else(grd (0≤a0.at_∧a0.at_<a0.b.length) (if(decide ((1:Int)<(rd a0.b a0.at_)))=true then((f_wire_Reader_fail a0 (⟨#[102,108,97,103]⟩:ByteArray) a0.at_ (5:Int)).bind fun r37=>(some (Sum.inl r37)))else(grd (0≤IntKind.i64.wrap ((IntKind.i64.wrap (a0.at_+(1:Int)))- (1:Int))∧IntKind.i64.wrap ((IntKind.i64.wrap (a0.at_+(1:Int)))- (1:Int))<a0.b.length) (((some (decide ((rd a0.b (IntKind.i64.wrap ((IntKind.i64.wrap (a0.at_+(1:Int)))- (1:Int))))=(1:Int)),IntKind.i64.wrap (a0.at_+(1:Int)),a0.err))).bind fun r=>some (Sum.inr r))))))):Option (GErr⊕(Bool×Int×GErr))).bind (Sum.elim (fun(x21:GErr)=>(some (false,a0.at_,x21))) some))
def f_wire_Reader_Flag_post (a0:T_wire_Reader) (v0_0:Value) (g0:Nat):(Bool×Int×GErr)→Value→IM→HL→Prop:=
 fun(p_:(Bool×Int×GErr)) (v:Value) (M':IM) (H':HL)=>match p_ with |(r0,r1,r2)=>(.bool r0)=v∧H'=[[(g0, .cells #[v0_0,(.int .i64 r1),(GV r2)] 99 (0,0))]]
theorem f_wire_Reader_Flag_ok (a0:T_wire_Reader) (M:IM) (v0_0:Value) (g0:Nat) (h0_0:RS (Kd.int .u8) M v0_0 a0.b) (res:(Bool×Int×GErr)) (h:f_wire_Reader_Flag a0=some res):
 Tri Tryz.prog 28 #[(pt g0 0)] M [[(g0, .cells #[v0_0,(Iv a0.at_),(GV a0.err)] 99 (0,0))]] (f_wire_Reader_Flag_post a0 v0_0 g0 res):=by
 unfold f_wire_Reader_Flag at h
 refine Te Tryz.func28 Z Z ?_
 intro F ρ hρ
 refine Sr (qa (Bv false) (Nt ?_))
 obtain ⟨j22,hj22,h⟩:=bnd h
 refine WC.joinE (fun(x21:GErr) ρ' M' H'=>M.le M'∧[(g0, .cells #[v0_0,(Iv a0.at_),(GV x21)] 99 (0,0))]::F=H') j22 ?_ ?_
 have h322:=h
 have h:=hj22
 refine Bk (Sr (qM (pt g0 0) (hρ 0) (qu (pt g0 0) (Nk Z) (qu (pt g0 2) (Fa fo99_2 Z Z) (qu (GV a0.err) (Lb 0 pl33 Z Z Z) (qu (Bv (!a0.err.isNil)) (PO.errNotNil Tryz.underlying33 Z) (qa (Bv (!a0.err.isNil)) (Nt (Ch h Z (fun hb23 h=> ?_) (fun hb23 h=> ?_))))))))))
 exact Ck (Bn (WQ.thenFE h ⟨lr,Z⟩))
 refine Cs (WC.draw [0,1,3,7,0,16,48,112,240,511,1023] (.pure 0 (.pure 1 (.pure 2 (.pure 3 (.pure 4 (.pure 5 (.pure 6 (.pure 7 (.pure 8 (.pure 9 (.pure 10 .done))))))))))) mixed (by kernel_rfl) (qt (pt g0 0) Z (Mv (hρ 0)) (qt (pt g0 0) Z (Nk Z) (qt (pt g0 1) Z (Fa fo99_1 Z Z) (qt (Iv a0.at_) Z (Lb 0 pl3 Z Z Z) (qt (pt g0 0) Z (Mv (hρ 0)) (qt (pt g0 0) Z (Nk Z) (qt (pt g0 0) Z (Fa fo99_0 Z Z) (qt v0_0 Z (Lb 0 pl31 Z Z Z) (qt (Iv (a0.b.length:Int)) Z (PO.lenS Tryz.underlying31 Z h0_0.len) (qt (Bv (decide ((a0.b.length:Int)≤a0.at_))) Z (PO.geq Z Z) ?_)))))))))))
 refine qt (Bv (decide ((a0.b.length:Int)≤a0.at_))) Z (Ag Z) (Ti (Tc (Ch h Z (fun hb24 h=> ?_) (fun hb24 h=> ?_))))
 refine Cg (qM (pt g0 0) (hρ 0) (qM (pt g0 0) (hρ 0) (qu (pt g0 0) (Nk Z) (qu (pt g0 1) (Fa fo99_1 Z Z) (qu (Iv a0.at_) (Lb 0 pl3 Z Z Z) ?_)))))
 obtain ⟨r25,hr26,h⟩:=bnd h
 refine We (Cb co55 (f_wire_Reader_fail_ok a0 (⟨#[102,108,97,103]⟩:ByteArray) a0.at_ (3:Int) _ _ _ h0_0 r25 hr26) (args4 Z Z Z Z)) Z ?_
 rintro _ M27 _ hle28 ⟨_,⟨rfl,rfl⟩,rfl⟩
 exact WL.a1 (Wz (Bn (WQ.thenFE h ⟨hle28,Z⟩)))
 refine Cs (WC.draw [0,1,3,7,0,16,48,112,255,511,1023,2047] (.pure 0 (.pure 1 (.pure 2 (.pure 3 (.pure 4 (.pure 5 (.pure 6 (.pure 7 (.pure 8 (.pure 9 (.pure 10 (.pure 11 .done)))))))))))) mixed (by kernel_rfl) (qt (pt g0 0) Z (Mv (hρ 0)) (qt (pt g0 0) Z (Nk Z) (qt (pt g0 0) Z (Fa fo99_0 Z Z) (qt v0_0 Z (Lb 0 pl31 Z Z Z) (qt (pt g0 0) Z (Mv (hρ 0)) (qt (pt g0 0) Z (Nk Z) (qt (pt g0 1) Z (Fa fo99_1 Z Z) (qt (Iv a0.at_) Z (Lb 0 pl3 Z Z Z) ?_)))))))))
 obtain ⟨hg29,h⟩:=grd_i h
 obtain ⟨p30,cs31,hat32,hrc33,hhas34⟩:=h0_0.at hg29.1 hg29.2 (by decide)
 obtain rfl:=hrc33
 refine qt (.pointer (some p30)) Z (PO.indexAddr (n:=a0.b.length) Tryz.underlying31 sz5 Z Z hg29.1 hg29.2 hat32) (qt (Yv (rd a0.b a0.at_)) Z (PO.loadM pl5 Z (IM.has0 hhas34)) (qt (Bv (decide ((1:Int)<(rd a0.b a0.at_)))) Z (PO.gtr Z Z) (qt (Bv (decide ((1:Int)<(rd a0.b a0.at_)))) Z (Ag Z) (Ti (Tc (Ch h Z (fun hb36 h=> ?_) (fun hb36 h=> ?_)))))))
 refine Cg (qM (pt g0 0) (hρ 0) (qM (pt g0 0) (hρ 0) (qu (pt g0 0) (Nk Z) (qu (pt g0 1) (Fa fo99_1 Z Z) (qu (Iv a0.at_) (Lb 0 pl3 Z Z Z) ?_)))))
 obtain ⟨r37,hr38,h⟩:=bnd h
 refine We (Cb co55 (f_wire_Reader_fail_ok a0 (⟨#[102,108,97,103]⟩:ByteArray) a0.at_ (5:Int) _ _ _ h0_0 r37 hr38) (args4 Z Z Z Z)) Z ?_
 rintro _ M39 _ hle40 ⟨_,⟨rfl,rfl⟩,rfl⟩
 exact WL.a1 (Wz (Bn (WQ.thenFE h ⟨hle40,Z⟩)))
 refine Sr (qM (pt g0 0) (hρ 0) (qu (pt g0 0) (Nk Z) (qu (pt g0 1) (Fa fo99_1 Z Z) (qu (Iv a0.at_) (Lb 0 pl3 Z Z Z) (qu (Iv (IntKind.i64.wrap (a0.at_+1))) (PO.add Z Z) (qu (pt g0 0) (Nk Z) (qu (pt g0 1) (Fa fo99_1 Z Z) (We (Es (Iv (IntKind.i64.wrap (a0.at_+1))) [v0_0,(Iv (IntKind.i64.wrap (a0.at_+1))),(GV a0.err)] Z sz3 Z Z Z Z Z Z) Z ?_))))))))
 rintro _ _ _ - ⟨rfl,rfl⟩
 refine Nt (Cs (WC.draw [0,1,3,7,0,16,48,112,240,511,1023,2047,4095] (.pure 0 (.pure 1 (.pure 2 (.pure 3 (.pure 4 (.pure 5 (.pure 6 (.pure 7 (.pure 8 (.pure 9 (.pure 10 (.pure 11 (.pure 12 .done))))))))))))) mixed (by kernel_rfl) (qt (pt g0 0) Z (Mv (hρ 0)) (qt (pt g0 0) Z (Nk Z) (qt (pt g0 0) Z (Fa fo99_0 Z Z) (qt v0_0 Z (Lb 0 pl31 Z Z Z) (qt (pt g0 0) Z (Mv (hρ 0)) (qt (pt g0 0) Z (Nk Z) (qt (pt g0 1) Z (Fa fo99_1 Z Z) (qt (Iv (IntKind.i64.wrap (a0.at_+1))) Z (Lb 0 pl3 Z Z Z) (qt (Iv (IntKind.i64.wrap ((IntKind.i64.wrap (a0.at_+1))- 1))) Z (PO.sub Z Z) ?_)))))))))))
 obtain ⟨hg41,h⟩:=grd_i h
 obtain ⟨p42,cs43,hat44,hrc45,hhas46⟩:=h0_0.at hg41.1 hg41.2 (by decide)
 obtain rfl:=hrc45
 refine qt (.pointer (some p42)) Z (PO.indexAddr (n:=a0.b.length) Tryz.underlying31 sz5 Z Z hg41.1 hg41.2 hat44) (qt (Yv (rd a0.b (IntKind.i64.wrap ((IntKind.i64.wrap (a0.at_+1))- 1)))) Z (PO.loadM pl5 Z (IM.has0 hhas46)) (qt (Bv (decide ((rd a0.b (IntKind.i64.wrap ((IntKind.i64.wrap (a0.at_+1))- 1)))=1))) Z (PO.eql Z Z) (qt (Bv (decide ((rd a0.b (IntKind.i64.wrap ((IntKind.i64.wrap (a0.at_+1))- 1)))=1))) Z (Ag Z) (Ti (Tc (Cr (Br (Tr ?_))))))))
 have h:=KK.early h h322
 exact Rf h [[(g0, .cells #[v0_0,(Iv (IntKind.i64.wrap (a0.at_+1))),(GV a0.err)] 99 (0,0))]] Z (Rs Z Z) lr ⟨Z,Z⟩
 rintro x21 ρ22 M22 H22 rfl ⟨hle22,rfl⟩
 have h:=(Sum.elim_inl _ _ _).symm.trans h
 exact Sr (qa (Bv false) (Nt (Cr (Rf h [[(g0, .cells #[v0_0,(Iv a0.at_),(GV x21)] 99 (0,0))]] Z (Rs Z Z) hle22 ⟨Z,Z⟩))))
noncomputable def f_dump_Read_4_Read_1_Read_2 (a0qk0q:T_wire_Reader):Option (T_api_Broker×Int×GErr):=
 ((f_dump_Read_1 a0qk0q).bind fun(r22,r23,r24)=>((f_dump_Read_1 (⟨a0qk0q.b,r23,r24⟩:T_wire_Reader)).bind fun(r29,r30,r31)=>((f_dump_Read_2 (⟨a0qk0q.b,r30,r31⟩:T_wire_Reader)).bind fun(r36,r37,r38)=>((f_wire_Reader_Flag (⟨a0qk0q.b,r37,r38⟩:T_wire_Reader)).bind fun(r43,r44,r45)=>((f_wire_Reader_Flag (⟨a0qk0q.b,r44,r45⟩:T_wire_Reader)).bind fun(r50,r51,r52)=>(some ((⟨r22,r29,r36,r43,r50⟩:T_api_Broker),r51,r52)))))))
def f_dump_Read_4_Read_1_Read_2_post (a0qk0q:T_wire_Reader) (v0qk0q_0:Value) (g0 g0qk0 g0qk0q g1:Nat):(T_api_Broker×Int×GErr)→Value→IM→HL→Prop:=
 fun(p_:(T_api_Broker×Int×GErr)) (v:Value) (M':IM) (H':HL)=>match p_ with |(r0,r1,r2)=>(.agg #[(.int .i64 r0.Id),(.int .i64 r0.Epoch),(.string r0.Rack),(.bool r0.Fenced),(.bool r0.Leaving)])=v∧H'=[[(g0qk0q, .cells #[v0qk0q_0,(.int .i64 r1),(GV r2)] 99 (0,0))],[(g0qk0, .cells #[(.pointer (some ⟨g0qk0q,0,none⟩))] 67 (0,0))],[(g0, .cells #[(.func (.func 20) #[] #[(.pointer (some ⟨g0qk0,0,none⟩))])] 70 (0,0))],[(g1, .cells #[(.func (.func 22) #[] #[(.pointer (some ⟨g0qk0,0,none⟩))])] 72 (0,0))]]
theorem f_dump_Read_4_Read_1_Read_2_ok (a0qk0q:T_wire_Reader) (M:IM) (v0qk0q_0:Value) (g0 g0qk0 g0qk0q g1:Nat) (h0qk0q_0:RS (Kd.int .u8) M v0qk0q_0 a0qk0q.b) (res:(T_api_Broker×Int×GErr)) (h:f_dump_Read_4_Read_1_Read_2 a0qk0q=some res):
 Tri Tryz.prog 27 #[(pt g0 0),(pt g1 0),(pt g0qk0 0)] M [[(g0qk0q, .cells (l99 a0qk0q v0qk0q_0).toArray 99 (0,0))],[(g0qk0, .cells #[(pt g0qk0q 0)] 67 (0,0))],[(g0, .cells #[(.func (.func 20) #[] #[(pt g0qk0 0)])] 70 (0,0))],[(g1, .cells #[(.func (.func 22) #[] #[(pt g0qk0 0)])] 72 (0,0))]] (f_dump_Read_4_Read_1_Read_2_post a0qk0q v0qk0q_0 g0 g0qk0 g0qk0q g1 res):=by
 unfold f_dump_Read_4_Read_1_Read_2 at h
 refine Te Tryz.func27 Z Z ?_
 intro F ρ hρ
 refine Sr (We (Al ze59 Z) Z ?_)
 rintro _ _ _ - ⟨rfl,g21,rfl,rfl⟩
 refine Nt (Cs (WC.draw [0,1,0,7,0,31,0,127,0,511,1023,2047] (.pure 0 (.pure 2 (.pure 4 (.pure 6 (.pure 8 (.alt 1 (.alt 3 (.alt 5 (.alt 7 (.alt 9 (.pure 10 (.alt 11 .done .none)) .none) .none) .none) .none) .none)))))) mixed (by kernel_rfl) (qt (.func (.func 20) #[] #[(pt g0qk0 0)]) Z (Lb 3 pl70 (hρ 0) Z Z) (qt (.func (.func 20) #[] #[(pt g0qk0 0)]) Z (Lb 3 pl70 (hρ 0) Z Z) (qt (.func (.func 22) #[] #[(pt g0qk0 0)]) Z (Lb 4 pl72 (hρ 1) Z Z) (qt (pt g0qk0q 0) Z (Lb 2 pl67 (hρ 2) Z Z) (qt (pt g0qk0q 0) Z (Lb 2 pl67 (hρ 2) Z Z) ?_)))))))
 obtain ⟨⟨r22,r23,r24⟩,hr25,h⟩:=bnd h
 refine WT.f2 (WT.f2 (Ta Z (EO.callV2 (first:=#[]) (cap:=#[(pt g0qk0 0)]) co20 Z (f_dump_Read_1_ok a0qk0q _ _ _ _ h0qk0q_0 (r22,r23,r24) hr25) (argsV0 Z)) Z ?_ ?_))
 rintro _ M26 _ hle27 ⟨_,⟨rfl,rfl⟩,rfl⟩
 refine⟨(Ss Z (Lb 1 pl67 (hρ 2) Z Z) Z (Ss Z (Lb 1 pl67 (hρ 2) Z Z) Z (Ss Z (Lb 4 pl72 (hρ 1) Z Z) Z (Ss Z (Lb 3 pl70 (hρ 0) Z Z) Z (Sl Z))))), ?_⟩
 refine WT.a2 ?_
 obtain ⟨⟨r29,r30,r31⟩,hr32,h⟩:=bnd h
 refine WT.f1 (WT.f1 ?_)
 have h0qk0q_0:=h0qk0q_0.mono hle27
 refine Ta Z (EO.callV2 (first:=#[]) (cap:=#[(pt g0qk0 0)]) co20 Z (f_dump_Read_1_ok (⟨a0qk0q.b,r23,r24⟩:T_wire_Reader) _ _ _ _ h0qk0q_0 (r29,r30,r31) hr32) (argsV0 Z)) Z ?_ ?_
 rintro _ M33 _ hle34 ⟨_,⟨rfl,rfl⟩,rfl⟩
 refine⟨(Ss Z (Lb 1 pl67 (hρ 2) Z Z) Z (Ss Z (Lb 1 pl67 (hρ 2) Z Z) Z (Ss Z (Lb 4 pl72 (hρ 1) Z Z) Z (Sl Z)))), ?_⟩
 refine WT.a2 ?_
 obtain ⟨⟨r36,r37,r38⟩,hr39,h⟩:=bnd h
 refine WT.f1 (WT.f1 ?_)
 have h0qk0q_0:=h0qk0q_0.mono hle34
 refine Ta Z (EO.callV2 (first:=#[]) (cap:=#[(pt g0qk0 0)]) co22 Z (f_dump_Read_2_ok (⟨a0qk0q.b,r30,r31⟩:T_wire_Reader) _ _ _ _ h0qk0q_0 (r36,r37,r38) hr39) (argsV0 Z)) Z ?_ ?_
 rintro _ M40 _ hle41 ⟨_,⟨rfl,rfl⟩,rfl⟩
 refine⟨(Ss Z (Lb 1 pl67 (hρ 2) Z Z) Z (Ss Z (Lb 1 pl67 (hρ 2) Z Z) Z (Sl Z))), ?_⟩
 refine WT.a2 ?_
 obtain ⟨⟨r43,r44,r45⟩,hr46,h⟩:=bnd h
 have h0qk0q_0:=h0qk0q_0.mono hle41
 refine Ta Z (Cb co28 (f_wire_Reader_Flag_ok (⟨a0qk0q.b,r37,r38⟩:T_wire_Reader) _ _ _ h0qk0q_0 (r43,r44,r45) hr46) (args1 Z)) Z ?_ ?_
 rintro _ M47 _ hle48 ⟨_,⟨rfl,rfl⟩,rfl⟩
 refine⟨(Ss Z (Lb 1 pl67 (hρ 2) Z Z) Z (Sl Z)), ?_⟩
 refine WT.a1 ?_
 obtain ⟨⟨r50,r51,r52⟩,hr53,h⟩:=bnd h
 have h0qk0q_0:=h0qk0q_0.mono hle48
 refine Ta Z (Cb co28 (f_wire_Reader_Flag_ok (⟨a0qk0q.b,r44,r45⟩:T_wire_Reader) _ _ _ h0qk0q_0 (r50,r51,r52) hr53) (args1 Z)) Z ?_ ?_
 rintro _ M54 _ hle55 ⟨_,⟨rfl,rfl⟩,rfl⟩
 refine⟨(Sl Z), ?_⟩
 refine WT.a1 (qt (.agg #[(Iv r22),(Iv r29),(Sv r36),(Bv r43),(Bv r50)]) Z (Bl (cl:=[(Iv r22),(Iv r29),(Sv r36),(Bv r43),(Bv r50)]) ze59 fp59 (Pc (Iv r22) Z Z (Pc (Iv r29) Z Z (Pc (Sv r36) Z Z (Pc (Bv r43) Z Z (Pc (Bv r50) Z Z Pz))))) Z) (WT.f2 (Ta Z (Sg (v:=(.agg #[(Iv r22),(Iv r29),(Sv r36),(Bv r43),(Bv r50)])) (vl:=[(Iv r22),(Iv r29),(Sv r36),(Bv r43),(Bv r50)]) (arr':=[(Iv r22),(Iv r29),(Sv r36),(Bv r43),(Bv r50)]) Z sz59 Z Z (onb Z) Z Z Z) Z ?_ ?_)))
 rintro _ _ _ - ⟨rfl,rfl⟩
 refine⟨(Sl Z), ?_⟩
 exact Ti (Tc (Cr (Rd h [[(g0qk0q, .cells #[v0qk0q_0,(Iv r51),(GV r52)] 99 (0,0))],[(g0qk0, .cells #[(pt g0qk0q 0)] 67 (0,0))],[(g0, .cells #[(.func (.func 20) #[] #[(pt g0qk0 0)])] 70 (0,0))],[(g1, .cells #[(.func (.func 22) #[] #[(pt g0qk0 0)])] 72 (0,0))]] (fun _ hs=>hs.drop) (resultsL1 Z (Rc (cs:=[(Iv r22),(Iv r29),(Sv r36),(Bv r43),(Bv r50)]) 0 ag59 sz59 Z Z Z)) ((((hle27.trans hle34).trans hle41).trans hle48).trans hle55) ⟨Z,Z⟩)))
 exact Tz
 exact Tz
 exact Tz
 exact Tz
 exact Tz
 exact Tz
noncomputable def f_dump_many_api_Broker_Read_4_Read_1_Read_2_l0 (a0:T_wire_Reader) (r21:Int) (s_:((List T_api_Broker)×Int×Int×GErr)):Option (((List T_api_Broker)×Int×Int×GErr)⊕((List T_api_Broker)×Int×GErr)):=
 match s_ with
 |(x33,x34,x35,x36)=>
 (((if(decide (x34<r21))=true then((f_wire_Reader_Err (⟨a0.b,x35,x36⟩:T_wire_Reader)).bind fun r43=>(some r43.isNil))else(some false)):Option Bool).bind fun x40=>(if x40=true then((f_dump_Read_4_Read_1_Read_2 (⟨a0.b,x35,x36⟩:T_wire_Reader)).bind fun(r49,r50,r51)=>(grd (x33.length+[r49].length≤274877906944) (some (Sum.inl (x33++[r49],IntKind.i64.wrap (x34+(1:Int)),r50,r51)))))else(some (Sum.inr (x33,x35,x36)))))
noncomputable def f_dump_many_api_Broker_Read_4_Read_1_Read_2 (a0:T_wire_Reader) (a1:Int):Option ((List T_api_Broker)×Int×GErr):=
 ((f_wire_Reader_Int a0 a1).bind fun(r21,r22,r23)=>((((iter (f_dump_many_api_Broker_Read_4_Read_1_Read_2_l0 a0 r21) ([],(0:Int),r22,r23)).bind (fun(x37,x38,x39)=>(some (x37,x38,x39)))):Option ((List T_api_Broker)×Int×GErr)).bind fun(x28,x29,x30)=>(some (x28,x29,x30))))
def f_dump_many_api_Broker_Read_4_Read_1_Read_2_post (a0:T_wire_Reader) (a1:Int) (v0_0:Value) (g0 g2k0 g2k0qk0 g2k1:Nat):((List T_api_Broker)×Int×GErr)→Value→IM→HL→Prop:=
 fun(p_:((List T_api_Broker)×Int×GErr)) (v:Value) (M':IM) (H':HL)=>match p_ with |(r0,r1,r2)=>∃ vz0 cz0,vz0=v∧H'=[[(g0, .cells #[v0_0,(.int .i64 r1),(GV r2)] 99 (0,0))],[(g2k0qk0, .cells #[(.pointer (some ⟨g0,0,none⟩))] 67 (0,0))],[(g2k0, .cells #[(.func (.func 20) #[] #[(.pointer (some ⟨g2k0qk0,0,none⟩))])] 70 (0,0))],[(g2k1, .cells #[(.func (.func 22) #[] #[(.pointer (some ⟨g2k0qk0,0,none⟩))])] 72 (0,0))],cz0]∧OwnS kd_api_Broker M' vz0 r0 cz0
theorem f_dump_many_api_Broker_Read_4_Read_1_Read_2_ok (a0:T_wire_Reader) (a1:Int) (M:IM) (v0_0:Value) (g0 g2k0 g2k0qk0 g2k1:Nat) (h0_0:RS (Kd.int .u8) M v0_0 a0.b) (res:((List T_api_Broker)×Int×GErr)) (h:f_dump_many_api_Broker_Read_4_Read_1_Read_2 a0 a1=some res):
 Tri Tryz.prog 26 #[(pt g0 0),(Iv a1),(.func (.func 27) #[] #[(pt g2k0 0),(pt g2k1 0),(pt g2k0qk0 0)])] M [[(g0, .cells #[v0_0,(Iv a0.at_),(GV a0.err)] 99 (0,0))],[(g2k0qk0, .cells #[(pt g0 0)] 67 (0,0))],[(g2k0, .cells #[(.func (.func 20) #[] #[(pt g2k0qk0 0)])] 70 (0,0))],[(g2k1, .cells #[(.func (.func 22) #[] #[(pt g2k0qk0 0)])] 72 (0,0))]] (f_dump_many_api_Broker_Read_4_Read_1_Read_2_post a0 a1 v0_0 g0 g2k0 g2k0qk0 g2k1 res):=by
 unfold f_dump_many_api_Broker_Read_4_Read_1_Read_2 at h
 refine Te Tryz.func26 Z Z ?_
 intro F ρ hρ
 refine Sr (qa Zs (Ns (qa Zs (Ns (qM (pt g0 0) (hρ 0) (qM (Iv a1) (hρ 1) ?_))))))
 obtain ⟨⟨r21,r22,r23⟩,hr24,h⟩:=bnd h
 refine We (Cb co21 (f_wire_Reader_Int_ok a0 a1 _ _ _ h0_0 (r21,r22,r23) hr24) (args2 Z Z)) Z ?_
 rintro _ M25 _ hle26 ⟨_,⟨rfl,rfl⟩,rfl⟩
 refine WL.a1 (qa (Iv r21) (Nt ?_))
 obtain ⟨j31,hj31,h⟩:=bnd h
 refine Jf (fun(p_:((List T_api_Broker)×Int×GErr)) ρ' M' H'=>match p_ with |(x28,x29,x30)=>∃ vx28 cx28,M25.le M'∧[(g0, .cells #[v0_0,(Iv x29),(GV x30)] 99 (0,0))]::[(g2k0qk0, .cells #[(pt g0 0)] 67 (0,0))]::[(g2k0, .cells #[(.func (.func 20) #[] #[(pt g2k0qk0 0)])] 70 (0,0))]::[(g2k1, .cells #[(.func (.func 22) #[] #[(pt g2k0qk0 0)])] 72 (0,0))]::cx28::F=H'∧ρ' 7=vx28∧OwnS kd_api_Broker M' vx28 x28 cx28) j31 ?_ ?_
 have h:=hj31
 refine Sr (qa (Iv 0) (Nt (Bk (WC.e0 (WC.f4 (WC.f4 (WC.f4 (WC.f4 ?_))))))))
 obtain ⟨e32,he32,hK32⟩:=bnd h
 clear h
 refine WC.loop he32 (fun(p_:((List T_api_Broker)×Int×Int×GErr)) ρ' M' H'=>match p_ with |(x33,x34,x35,x36)=>∃ vx33 cx33,M25.le M'∧[(g0, .cells #[v0_0,(Iv x35),(GV x36)] 99 (0,0))]::[(g2k0qk0, .cells #[(pt g0 0)] 67 (0,0))]::[(g2k0, .cells #[(.func (.func 20) #[] #[(pt g2k0qk0 0)])] 70 (0,0))]::[(g2k1, .cells #[(.func (.func 22) #[] #[(pt g2k0qk0 0)])] 72 (0,0))]::cx33::F=H'∧ρ' 0=(pt g0 0)∧ρ' 2=(.func (.func 27) #[] #[(pt g2k0 0),(pt g2k1 0),(pt g2k0qk0 0)])∧ρ' 7=vx33∧ρ' 8=(Iv r21)∧ρ' 9=(Iv x34)∧OwnS kd_api_Broker M' vx33 x33 cx33) ?_ ?_
 exact⟨Zs,[],lr,Z,(hρ 0),(hρ 2),Z,Z,Z,(OwnS.nil _ _)⟩
 rintro ⟨x33,x34,x35,x36⟩ o32 ρ32 M32 H32 h ⟨vx33,cx33,hle32,rfl,hs32_0,hs32_2,hs32_7,hs32_8,hs32_9,hx33⟩
 unfold f_dump_many_api_Broker_Read_4_Read_1_Read_2_l0 at h
 refine Cs ?_
 obtain ⟨x40,hj41,h⟩:=bnd h
 refine Jf (fun(x40:Bool) ρ' M' H'=>M32.le M'∧[(g0, .cells #[v0_0,(Iv x35),(GV x36)] 99 (0,0))]::[(g2k0qk0, .cells #[(pt g0 0)] 67 (0,0))]::[(g2k0, .cells #[(.func (.func 20) #[] #[(pt g2k0qk0 0)])] 70 (0,0))]::[(g2k1, .cells #[(.func (.func 22) #[] #[(pt g2k0qk0 0)])] 72 (0,0))]::cx33::F=H'∧ρ' 0=(pt g0 0)∧ρ' 2=(.func (.func 27) #[] #[(pt g2k0 0),(pt g2k1 0),(pt g2k0qk0 0)])∧ρ' 7=vx33∧ρ' 8=(Iv r21)∧ρ' 9=(Iv x34)∧ρ' 20=(Bv x40)) x40 ?_ ?_
 have h:=hj41
 refine Cg (qM (Iv x34) hs32_9 (qM (Iv r21) hs32_8 (qu (Bv (decide (x34<r21))) (PO.lss Z Z) (qm (Bv (decide (x34<r21))) ?_))))
 rcases Bi h with⟨hb42,h⟩ |⟨hb42,h⟩
 refine On 16 Z Z hb42 (qM (pt g0 0) hs32_0 (On 16 Z Z hb42 ?_))
 obtain ⟨r43,hr44,h⟩:=bnd h
 have h0_0:=h0_0.mono (hle26.trans hle32)
 refine We (Cb co57 (f_wire_Reader_Err_ok (⟨a0.b,x35,x36⟩:T_wire_Reader) _ _ _ h0_0 r43 hr44) (args1 Z)) Z ?_
 rintro _ M45 _ hle46 ⟨_,⟨rfl,rfl⟩,rfl⟩
 refine WL.a1 (qo 16 hb42 (Bv r43.isNil) (PO.errNil Tryz.underlying33 Z) (qu (Bv r43.isNil) (Pt Z hb42 Z) (Wz ?_)))
 obtain rfl:=oi h
 exact Tj ⟨hle46,Z,hs32_0,hs32_2,hs32_7,hs32_8,hs32_9,Z⟩
 iterate 3 refine Of 16 Z Z hb42 Z ?_
 refine qu (Bv false) (Pf Z hb42 Z) (Wz ?_)
 obtain rfl:=oi h
 exact Tj ⟨lr,Z,hs32_0,hs32_2,hs32_7,hs32_8,hs32_9,Z⟩
 rintro ρ41 M41 H41 ⟨hle41,rfl,hs41_0,hs41_2,hs41_7,hs41_8,hs41_9,hs41_20⟩
 refine Ch h hs41_20 (fun hb48 h=> ?_) (fun hb48 h=> ?_)
 refine Ck (Tc (Cs (Bk (Cg (qM vx33 hs41_7 (qM (.func (.func 27) #[] #[(pt g2k0 0),(pt g2k1 0),(pt g2k0qk0 0)]) hs41_2 ?_))))))
 obtain ⟨⟨r49,r50,r51⟩,hr52,h⟩:=bnd h
 refine WL.f3 (WL.f3 (WL.f3 (WL.f3 ?_)))
 have h0_0:=h0_0.mono ((hle26.trans hle32).trans hle41)
 refine We (EO.callV4 (first:=#[]) (cap:=#[(pt g2k0 0),(pt g2k1 0),(pt g2k0qk0 0)]) co27 Z (f_dump_Read_4_Read_1_Read_2_ok (⟨a0.b,x35,x36⟩:T_wire_Reader) _ _ _ _ _ _ h0_0 (r49,r50,r51) hr52) (argsV0 Z)) Z ?_
 rintro _ M53 _ hle54 ⟨_,⟨rfl,rfl⟩,rfl⟩
 refine WL.a4 (We (EO.buildSliceL (cl:=(l59 r49)) Tryz.underlying24 iz59 Z (Pc (a59_ r49) Z Z Pz) Z) Z ?_)
 rintro _ _ _ - ⟨rfl,g56,rfl,rfl⟩
 have h58:OwnS kd_api_Broker M53 (.slice (some ⟨g56,0,none⟩) 1 1) [r49] [(g56, .cells (l59 r49).toArray 59 (0,0))]:=OwnS.rows (css:=[(l59 r49)]) (Rows.cons (kd_api_Broker_mk (x:=r49)) Rows.nil) Z Z
 obtain ⟨hg62,h⟩:=grd_i h
 refine WL.f5 ?_
 have hx33:=hx33.mono (hle41.trans hle54)
 refine We (EO.append (dd:=kd_api_Broker) (xs:=x33) (ys:=[r49]) Tryz.underlying24 Tryz.underlying24 in59 Z (appB (by decide) hg62) (by decide) Z Z hx33 (h58.src 1 Z)) Z ?_
 rintro v61 _ _ - ⟨rfl,c59,rfl,h60⟩
 refine qa v61 (Wz (Bn (Tc (Cg (qM (Iv x34) hs41_9 (qu (Iv (IntKind.i64.wrap (x34+1))) (PO.add Z Z) (qa (Iv (IntKind.i64.wrap (x34+1))) (Wz (Qa (Dr (WQ.f4 ?_)))))))))))
 exact WQ.f4 (WQ.f4 (WQ.f4 (WQ.again (x33++[r49],IntKind.i64.wrap (x34+1),r50,r51) (oi h).symm ⟨v61,c59,((hle32.trans hle41).trans hle54),Z,hs41_0,hs41_2,Z,hs41_8,Z,h60⟩)))
 refine WC.exit (WQ.thenE (WQ.leaveE (x33,x35,x36) (oi h).symm (fun heq32=> ?_)))
 subst heq32
 have h:=hK32
 refine WQ.blockH ?_
 obtain rfl:=oi h
 refine Tj ?_
 have hx33:=hx33.mono hle41
 exact⟨vx33,cx33,(hle32.trans hle41),Z,hs41_7,hx33⟩
 obtain ⟨x28,x29,x30⟩:=j31
 rintro ρ31 M31 H31 ⟨vx28,cx28,hle31,rfl,hs31_7,hx28⟩
 exact Sr (qM vx28 hs31_7 (qa vx28 (Nt (Cr (Rf h [[(g0, .cells #[v0_0,(Iv x29),(GV x30)] 99 (0,0))],[(g2k0qk0, .cells #[(pt g0 0)] 67 (0,0))],[(g2k0, .cells #[(.func (.func 20) #[] #[(pt g2k0qk0 0)])] 70 (0,0))],[(g2k1, .cells #[(.func (.func 22) #[] #[(pt g2k0qk0 0)])] 72 (0,0))],cx28] Z (Rs Z Z) (hle26.trans hle31) ⟨vx28,cx28,Z,Z,hx28⟩)))))

end Go.Proofs.YtpcbipcdfccnnaaGreat.G
