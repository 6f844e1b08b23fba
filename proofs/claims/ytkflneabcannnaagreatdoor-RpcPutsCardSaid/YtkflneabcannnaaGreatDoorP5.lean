/- Go functions: what they come to, and that they do. Printed by a program of the session (gen). -/
import Derived.Test.YtkflneabcannnaaGreatDoorPF
import Derived.Test.YtkflneabcannnaaGreatDoorP0
import Derived.Test.YtkflneabcannnaaGreatDoorP1
import Derived.Test.YtkflneabcannnaaGreatDoorP4
import Derived.Test.YtkflneabcannnaaGreatDoorKConv
import Derived.Test.YtkflneabcannnaaGreatDoorKShar2
import Derived.Test.YtkflneabcannnaaGreatDoorKTight2
set_option linter.unusedVariables false
set_option linter.unusedSimpArgs false
set_option maxHeartbeats 8000000
set_option maxRecDepth 100000
namespace Go.Proofs.YtkflneabcannnaaGreatDoor.G
open Go Go.KK

noncomputable def f_errors_as_code_l0 (a1:Int) (s_:GErr):Option (GErr⊕(Bool×Int)):=
 match s_ with
 |x23=>
 (match x23 with | .nil=>none | .code n26=>(some (Sum.inr (true,n26))) | .fault o27 a28 e29=>((f_api_Fault_Unwrap (⟨o27,a28,e29⟩:T_api_Fault)).bind fun r32=>(if r32.isNil=true then(some (Sum.inr (false,a1)))else(some (Sum.inl r32)))) | .other b30=>(some (Sum.inr (false,a1))))
noncomputable def f_errors_as_code (a0:GErr) (a1:Int):Option (Bool×Int):=
 ((iter (f_errors_as_code_l0 a1) a0).bind (fun(x24,x25)=>(some (x24,x25))))
def f_errors_as_code_post (a0:GErr) (a1:Int) (g1 g2:Nat):(Bool×Int)→Value→IM→HL→Prop:=
 fun(p_:(Bool×Int)) (v:Value) (M':IM) (H':HL)=>match p_ with |(r0,r1)=>(.bool r0)=v∧H'=[[(g1, .cells #[(.int .i64 r1)] 38 (0,0))],[(g2, .cells #[(.pointer (some ⟨g1,0,none⟩))] 119 (0,0))]]
theorem f_errors_as_code_ok (a0:GErr) (a1:Int) (M:IM) (g1 g2:Nat) (res:(Bool×Int)) (h:f_errors_as_code a0 a1=some res):
 Tri Tryz.prog 111 #[(GV a0),(.iface 119 (pt g1 0)),(.agg #[(pt 1 119),(pt g2 0),(Uv 150)]),(.iface 184 (.agg #[.pointer (some ⟨1,38,none⟩)]))] M [[(g1, .cells #[(Iv a1)] 38 (0,0))],[(g2, .cells #[(pt g1 0)] 119 (0,0))]] (f_errors_as_code_post a0 a1 g1 g2 res):=by
 unfold f_errors_as_code at h
 refine Te Tryz.func111 Z Z ?_
 intro F ρ hρ
 refine Sr (We (EO.box (cs:=#[(pt 1 119),(pt g2 0),(Uv 150)]) (congrArg Value.cells (asE (.agg #[(pt 1 119),(pt g2 0),(Uv 150)]) (hρ 2)))) Z ?_)
 rintro _ _ _ - ⟨rfl,g21,rfl,rfl⟩
 refine qa (Bv false) (Nt (Bk ?_))
 obtain ⟨e22,he22,hK22⟩:=bnd h
 clear h
 refine WC.loop he22 (fun(x23:GErr) ρ' M' H'=>M.le M'∧[(g21, .cells #[(pt 1 119),(pt g2 0),(Uv 150)] 153 (0,0))]::[(g1, .cells #[(Iv a1)] 38 (0,0))]::[(g2, .cells #[(pt g1 0)] 119 (0,0))]::F=H'∧ρ' 0=(GV x23)∧ρ' 1=(.iface 119 (pt g1 0))∧ρ' 3=(.iface 184 (.agg #[.pointer (some ⟨1,38,none⟩)]))∧ρ' 6=(pt g21 0)) ?_ ?_
 exact⟨lr,Z,(hρ 0),(hρ 1),(hρ 3),Z⟩
 rintro x23 o22 ρ22 M22 H22 h ⟨hle22,rfl,hs22_0,hs22_1,hs22_3,hs22_6⟩
 unfold f_errors_as_code_l0 at h
 refine Bk (Cs (Sr (qM (GV x23) hs22_0 ?_)))
 rcases x23 with _ |n26 |⟨o27,a28,e29⟩ |b30
 refine We (EO.extP xt91 (args1 (show ev _ _= .nilIface from Z)) tyNil) Z ?_
 rintro _ _ _ - ⟨rfl,rfl,rfl⟩
 exact qM (.iface 184 (.agg #[.pointer (some ⟨1,38,none⟩)])) hs22_3 (nones h)
 refine We (EO.extP xt91 (args1 (show ev _ _=(.iface 38 (Iv n26)) from Z)) (ty38 _)) Z ?_
 rintro _ _ _ - ⟨rfl,rfl,rfl⟩
 refine qM (.iface 184 (.agg #[.pointer (some ⟨1,38,none⟩)])) hs22_3 (We (EO.invE (show ev _ _=(.iface 184 (.agg #[.pointer (some ⟨1,38,none⟩)])) from Z) (mm_AssignableTo (pt 1 38)) xt173 (inv1 Z) mr_AssignableTo_38_38) Z ?_)
 rintro _ _ _ - ⟨rfl,rfl,rfl⟩
 refine Nt (WC.condT (b:=true) Z Z (Sr (qu (.agg #[(pt 1 119),(pt g2 0),(Uv 150)]) (La (cs:=[(pt 1 119),(pt g2 0),(Uv 150)]) 0 ag153 sz153 hs22_6 Z Z) (We (EO.rvElem (r:=fun p=> .agg #[(pt 1 38), .pointer (some p), .int .u64 386]) 2 xt137 pp119_150 Z pl119 el119 mk38 (args1 (show ev _ _=(.agg #[(pt 1 119),(pt g2 0),(Uv 150)]) from Z)) Z) Z ?_))))
 rintro _ _ _ - ⟨rfl,rfl,rfl⟩
 refine qM (GV (GErr.code n26)) hs22_0 (We (EO.valueOf xt108 (args1 (show ev _ _=(.iface 38 (Iv n26)) from Z)) (vo38 n26)) Z ?_)
 rintro _ _ _ - ⟨rfl,g31,rfl,rfl⟩
 refine Wb (We (EO.rvSet (arr:=[(Iv a1)]) (vl:=[(Iv n26)]) (v:=(Iv n26)) xt138 pp38_386 pp38_130 Z da38 (args2 (show ev _ _=(.agg #[(pt 1 38),(pt g1 0),(Uv 386)]) from Z) (show ev _ _=(.agg #[(pt 1 38),(pt g31 0),(Uv 130)]) from Z)) (fun _ hs=>run_loadPlain pl38 (hs.cellC 1 Z (chunkCell_lit.trans Z))) Z sz38 Z (onb Z)) Z ?_)
 rintro _ _ _ - ⟨rfl,rfl,rfl⟩
 refine Ns (qa (Bv true) (Nt (Cr (Tr (Br (WQ.leaveR (true,n26) (oi h).symm (fun heq22=> ?_)))))))
 subst heq22
 have h:=hK22
 exact Br (Qa (Dr (Qa (Dr (Rf h [[(g1, .cells #[(Iv n26)] 38 (0,0))],[(g2, .cells #[(pt g1 0)] 119 (0,0))]] Z (Rs Z Z) hle22 ⟨Z,Z⟩)))))
 refine We (EO.extP xt91 (args1 (show ev _ _=(.iface 108 (.agg #[.string o27, .int .i64 a28,GV e29])) from Z)) (ty108 _)) Z ?_
 rintro _ _ _ - ⟨rfl,rfl,rfl⟩
 refine qM (.iface 184 (.agg #[.pointer (some ⟨1,38,none⟩)])) hs22_3 (We (EO.invE (show ev _ _=(.iface 184 (.agg #[.pointer (some ⟨1,108,none⟩)])) from Z) (mm_AssignableTo (pt 1 108)) xt173 (inv1 Z) mr_AssignableTo_108_38) Z ?_)
 rintro _ _ _ - ⟨rfl,rfl,rfl⟩
 refine Nt (WC.condF (b:=false) Z Z (Ck (Tc (Cs (Sr (qM (GV (GErr.fault o27 a28 e29)) hs22_0 (qu (.tuple #[.nilIface,(Bv false)]) (PO.asserts (show ev _ _=(.iface 108 (.agg #[.string o27, .int .i64 a28,GV e29])) from Z) (la108_196 _ _)) (qm (.tuple #[.nilIface,(Bv false)]) (qu .nilIface (Xt Z Z) (qu (Bv false) (Xt Z Z) (qa .nilIface ?_)))))))))))
 refine qa (Bv false) (Ns (qm (Bv false) (qm (Bv false) ?_)))
 iterate 3 refine Of 31 Z Z Z Z ?_
 refine qu (Bv false) (Pf Z Z Z) (Nt (WC.condF (b:=false) Z Z (Ck (Tc (Sr (qM (GV (GErr.fault o27 a28 e29)) hs22_0 (Nt (Bk (Sr (qu (.tuple #[(GV (GErr.fault o27 a28 e29)),(Bv true)]) (PO.asserts (show ev _ _=(.iface 108 (.agg #[.string o27, .int .i64 a28,GV e29])) from Z) (ha108_189 _ _)) (qu (Bv true) (Xt Z Z) ?_)))))))))))
 refine qu (GV (GErr.fault o27 a28 e29)) (Xt Z Z) (Nt (WC.condT (b:=true) Z Z (Sr (qa (GV (GErr.fault o27 a28 e29)) (Ns (qm (GV (GErr.fault o27 a28 e29)) ?_))))))
 obtain ⟨r32,hr33,h⟩:=bnd h
 refine We (EO.invT (show ev _ _=(.iface 108 (.agg #[.string o27, .int .i64 a28,GV e29])) from Z) (me108_Unwrap _) co168 inv0 (f_api_Fault_Unwrap_ok (⟨o27,a28,e29⟩:T_api_Fault) _ r32 hr33)) Z ?_
 rintro _ M34 _ hle35 ⟨_,⟨rfl,rfl⟩,rfl⟩
 refine WL.a0 (qa (GV r32) (Ns (qm (GV r32) (qu (Bv r32.isNil) (PO.errNil Tryz.underlying31 Z) (Nt (Ch h Z (fun hb37 h=> ?_) (fun hb37 h=> ?_)))))))
 refine Sr (qa (Bv false) (Nt (Cr (Br (Br (WQ.leaveR (false,a1) (oi h).symm (fun heq22=> ?_)))))))
 subst heq22
 have h:=hK22
 exact Br (Dr (Rf h [[(g1, .cells #[(Iv a1)] 38 (0,0))],[(g2, .cells #[(pt g1 0)] 119 (0,0))]] Z (Rs Z Z) (hle22.trans hle35) ⟨Z,Z⟩))
 exact Ck (Bn (Bn (WQ.again r32 (oi h).symm ⟨(hle22.trans hle35),Z,Z,hs22_1,hs22_3,hs22_6⟩)))
 refine We (EO.extP xt91 (args1 (show ev _ _=(.iface 0 (.pointer (some b30))) from Z)) (ty0 _)) Z ?_
 rintro _ _ _ - ⟨rfl,rfl,rfl⟩
 refine qM (.iface 184 (.agg #[.pointer (some ⟨1,38,none⟩)])) hs22_3 (We (EO.invE (show ev _ _=(.iface 184 (.agg #[.pointer (some ⟨1,0,none⟩)])) from Z) (mm_AssignableTo (pt 1 0)) xt173 (inv1 Z) mr_AssignableTo_0_38) Z ?_)
 rintro _ _ _ - ⟨rfl,rfl,rfl⟩
 refine Nt (WC.condF (b:=false) Z Z (Ck (Tc (Cs (Sr (qM (GV (GErr.other b30)) hs22_0 (qu (.tuple #[.nilIface,(Bv false)]) (PO.asserts (show ev _ _=(.iface 0 (.pointer (some b30))) from Z) (la0_196 _ _)) (qm (.tuple #[.nilIface,(Bv false)]) (qu .nilIface (Xt Z Z) (qu (Bv false) (Xt Z Z) (qa .nilIface ?_)))))))))))
 refine qa (Bv false) (Ns (qm (Bv false) (qm (Bv false) ?_)))
 iterate 3 refine Of 31 Z Z Z Z ?_
 refine qu (Bv false) (Pf Z Z Z) (Nt (WC.condF (b:=false) Z Z (Ck (Tc (Sr (qM (GV (GErr.other b30)) hs22_0 (Nt (Bk (Sr (qu (.tuple #[.nilIface,(Bv false)]) (PO.asserts (show ev _ _=(.iface 0 (.pointer (some b30))) from Z) (la0_189 _ _)) (qu (Bv false) (Xt Z Z) ?_)))))))))))
 refine qu .nilIface (Xt Z Z) (Nt (WC.condF (b:=false) Z Z (Sr (qu (.tuple #[.nilIface,(Bv false)]) (PO.asserts (show ev _ _=(.iface 0 (.pointer (some b30))) from Z) (la0_190 _ _)) (qu (Bv false) (Xt Z Z) (qu .nilIface (Xt Z Z) (Nt (WC.condF (b:=false) Z Z (Sr (qa (GV (GErr.other b30)) (Ns ?_)))))))))))
 refine qa (Bv false) (Nt (Cr (Br (Br (WQ.leaveR (false,a1) (oi h).symm (fun heq22=> ?_))))))
 subst heq22
 have h:=hK22
 exact Br (Dr (Rf h [[(g1, .cells #[(Iv a1)] 38 (0,0))],[(g2, .cells #[(pt g1 0)] 119 (0,0))]] Z (Rs Z Z) hle22 ⟨Z,Z⟩))
noncomputable def f_errors_As_code (a0:GErr) (a1:Int):Option (Bool×Int):=
 (if a0.isNil=true then(some (false,a1))else((f_errors_as_code a0 a1).bind fun(r24,r25)=>(some (r24,r25))))
def f_errors_As_code_post (a0:GErr) (a1:Int) (g1:Nat):(Bool×Int)→Value→IM→HL→Prop:=
 fun(p_:(Bool×Int)) (v:Value) (M':IM) (H':HL)=>match p_ with |(r0,r1)=>(.bool r0)=v∧H'=[[(g1, .cells #[(.int .i64 r1)] 38 (0,0))]]
theorem f_errors_As_code_ok (a0:GErr) (a1:Int) (M:IM) (g1:Nat) (hE:Env M) (res:(Bool×Int)) (h:f_errors_As_code a0 a1=some res):
 Tri Tryz.prog 75 #[(GV a0),(.iface 119 (pt g1 0))] M [[(g1, .cells #[(Iv a1)] 38 (0,0))]] (f_errors_As_code_post a0 a1 g1 res):=by
 unfold f_errors_As_code at h
 refine Te Tryz.func75 Z Z ?_
 intro F ρ hρ
 refine Sr (qa (Bv false) (Nt (Cs (Sr (qM (GV a0) (hρ 0) (qu (Bv a0.isNil) (PO.errNil Tryz.underlying31 Z) (Nt (Ch h Z (fun hb21 h=> ?_) (fun hb21 h=> ?_)))))))))
 exact Sr (qa (Bv false) (Nt (Cr (Tr (Rf h [[(g1, .cells #[(Iv a1)] 38 (0,0))]] Z (Rs Z Z) lr ⟨Z,Z⟩)))))
 refine Ck (Tc (Cs (Sr (qM (.iface 119 (pt g1 0)) (hρ 1) (qu (Bv false) (PO.ifcNil Tryz.underlying20 Z) (Nt (WC.condF (b:=false) Z Z (Ck (Tc (Sr (qM (.iface 119 (pt g1 0)) (hρ 1) ?_)))))))))))
 refine We (EO.valueOf xt108 (args1 (show ev _ _=(.iface 119 (pt g1 0)) from Z)) (vo119 ⟨g1,0,none⟩)) Z ?_
 rintro _ _ _ - ⟨rfl,g22,rfl,rfl⟩
 refine We (Al ze153 Z) Z ?_
 rintro _ _ _ - ⟨rfl,g23,rfl,rfl⟩
 refine We (Sg (v:=(.agg #[(pt 1 119),(pt g22 0),(Uv 150)])) (vl:=[(pt 1 119),(pt g22 0),(Uv 150)]) (arr':=[(pt 1 119),(pt g22 0),(Uv 150)]) Z sz153 Z Z (onb Z) Z Z Z) Z ?_
 rintro _ _ _ - ⟨rfl,rfl⟩
 refine Ns (qu (.agg #[(pt 1 119),(pt g22 0),(Uv 150)]) (La (cs:=[(pt 1 119),(pt g22 0),(Uv 150)]) 0 ag153 sz153 Z Z Z) (We (EO.extP xt109 (args1 (show ev _ _=(.agg #[(pt 1 119),(pt g22 0),(Uv 150)]) from Z)) (vt119_150 _)) Z ?_))
 rintro _ _ _ - ⟨rfl,rfl,rfl⟩
 refine qa (.iface 184 (.agg #[.pointer (some ⟨1,119,none⟩)])) (Nt (Cs (Sr (qm (.iface 184 (.agg #[.pointer (some ⟨1,119,none⟩)])) (We (EO.invE (show ev _ _=(.iface 184 (.agg #[.pointer (some ⟨1,119,none⟩)])) from Z) (mm_Kind (pt 1 119)) xt163 inv0 mr_Kind_119) Z ?_)))))
 rintro _ _ _ - ⟨rfl,rfl,rfl⟩
 refine qu (Bv false) (PO.neqR Z Z (by decide)) (qm (Bv false) (qo 20 Z (.agg #[(pt 1 119),(pt g22 0),(Uv 150)]) (La (cs:=[(pt 1 119),(pt g22 0),(Uv 150)]) 0 ag153 sz153 Z Z Z) (On 20 Z Z Z (We (EO.isNil 1 xt110 pp119_150 Z pl119 (args1 (show ev _ _=(.agg #[(pt 1 119),(pt g22 0),(Uv 150)]) from Z)) Z) Z ?_))))
 rintro _ _ _ - ⟨rfl,rfl,rfl⟩
 refine qu (Bv false) (Pf Z Z Z) (Nt (WC.condF (b:=false) Z Z (Ck (Tc (Sr (qm (.iface 184 (.agg #[.pointer (some ⟨1,119,none⟩)])) (We (EO.invE (show ev _ _=(.iface 184 (.agg #[.pointer (some ⟨1,119,none⟩)])) from Z) (mm_Elem (pt 1 119)) xt175 inv0 mr_Elem_119) Z ?_)))))))
 rintro _ _ _ - ⟨rfl,rfl,rfl⟩
 refine qa (.iface 184 (.agg #[.pointer (some ⟨1,38,none⟩)])) (Nt (Cs (Sr (qm (.iface 184 (.agg #[.pointer (some ⟨1,38,none⟩)])) (We (EO.invE (show ev _ _=(.iface 184 (.agg #[.pointer (some ⟨1,38,none⟩)])) from Z) (mm_Kind (pt 1 38)) xt163 inv0 mr_Kind_38) Z ?_)))))
 rintro _ _ _ - ⟨rfl,rfl,rfl⟩
 refine qu (Bv true) (PO.neqR Z Z (by decide)) (qm (Bv true) (On 30 Z Z Z (qm (.iface 184 (.agg #[.pointer (some ⟨1,38,none⟩)])) (qo 30 Z (.iface 184 (.agg #[.pointer (some ⟨1,31,none⟩)])) (PO.loadG pl138 hE) (On 30 Z Z Z (We (EO.invE (show ev _ _=(.iface 184 (.agg #[.pointer (some ⟨1,38,none⟩)])) from Z) (mm_Implements (pt 1 38)) xt176 (inv1 Z) mr_Implements_38_31) Z ?_))))))
 rintro _ _ _ - ⟨rfl,rfl,rfl⟩
 refine qo 30 Z (Bv (!true)) (PO.not Z) (qu (Bv (!true)) (Pt Z Z Z) (Nt (WC.condF (b:= !true) Z Z (Ck (Tc (Sr (qM (GV a0) (hρ 0) (qM (.iface 119 (pt g1 0)) (hρ 1) (qu (.agg #[(pt 1 119),(pt g22 0),(Uv 150)]) (La (cs:=[(pt 1 119),(pt g22 0),(Uv 150)]) 0 ag153 sz153 Z Z Z) (qm (.iface 184 (.agg #[.pointer (some ⟨1,38,none⟩)])) ?_))))))))))
 obtain ⟨⟨r24,r25⟩,hr26,h⟩:=bnd h
 refine WL.f1 (Wb (We (EO.call2 co111 (f_errors_as_code_ok a0 a1 _ _ _ (r24,r25) hr26) (args4 Z Z Z Z)) Z ?_))
 rintro _ M27 _ hle28 ⟨_,⟨rfl,rfl⟩,rfl⟩
 exact WL.a2 (qa (Bv r24) (Nt (Cr (Qa (Dr (Qa (Dr (Rf h [[(g1, .cells #[(Iv r25)] 38 (0,0))]] Z (Rs Z Z) hle28 ⟨Z,Z⟩))))))))
noncomputable def f_fault_Of (a0:GErr):Option Int:=
 (if a0.isNil=true then(some (0:Int))else((f_errors_As_code a0 (0:Int)).bind fun(r23,r24)=>(if r23=true then(some r24)else(some (21:Int)))))
def f_fault_Of_post (a0:GErr):Int→Value→IM→HL→Prop:=
 fun(r0:Int) (v:Value) (M':IM) (H':HL)=>(.int .i64 r0)=v∧H'=[]
theorem f_fault_Of_ok (a0:GErr) (M:IM) (hE:Env M) (res:Int) (h:f_fault_Of a0=some res):
 Tri Tryz.prog 45 #[(GV a0)] M [] (f_fault_Of_post a0 res):=by
 unfold f_fault_Of at h
 refine Te Tryz.func45 Z Z ?_
 intro F ρ hρ
 refine Sr (qa (Iv 0) (Nt (Cs (Sr (qM (GV a0) (hρ 0) (qu (Bv a0.isNil) (PO.errNil Tryz.underlying31 Z) (Nt (Ch h Z (fun hb21 h=> ?_) (fun hb21 h=> ?_)))))))))
 exact Sr (qa (Iv 0) (Nt (Cr (Tr (Rf h [] Z (Rs Z Z) lr ⟨Z,Z⟩)))))
 refine Ck (Tc (Sr (We (Al ze38 Z) Z ?_)))
 rintro _ _ _ - ⟨rfl,g22,rfl,rfl⟩
 refine Nt (Cs (Sr (qM (GV a0) (hρ 0) (qu (.iface 119 (pt g22 0)) (PO.makeInterface cc119 Z) ?_))))
 obtain ⟨⟨r23,r24⟩,hr25,h⟩:=bnd h
 refine We (Cb co75 (f_errors_As_code_ok a0 (0:Int) _ _ hE (r23,r24) hr25) (args2 Z Z)) Z ?_
 rintro _ M26 _ hle27 ⟨_,⟨rfl,rfl⟩,rfl⟩
 refine WL.a1 (Nt (Ch h Z (fun hb29 h=> ?_) (fun hb29 h=> ?_)))
 exact Sr (qu (Iv r24) (Lb 0 pl38 Z Z Z) (qa (Iv r24) (Nt (Cr (Tr (Dr (Rf h [] Z (Rs Z Z) hle27 ⟨Z,Z⟩)))))))
 exact Ck (Tc (Sr (qa (Iv 21) (Nt (Cr (Dr (Rf h [] Z (Rs Z Z) hle27 ⟨Z,Z⟩)))))))
noncomputable def f_record_Read (a0:T_wire_Reader):Option (T_api_Record×Int×GErr):=
 ((f_wire_Reader_Int a0 (63:Int)).bind fun(r23,r24,r25)=>((((((f_wire_Reader_Err (⟨a0.b,r24,r25⟩:T_wire_Reader)).bind fun r35=>(if r35.isNil=true then(if(decide (r23<(1:Int)))=true then(some true)else(some (decide ((12:Int)<r23))))else(some false))):Option Bool).bind fun x33=>(if x33=true then((f_wire_Reader_Refuse (⟨a0.b,r24,r25⟩:T_wire_Reader) (⟨#[107,105,110,100]⟩:ByteArray) (5:Int)).bind fun r43=>(some r43))else(some r25))):Option GErr).bind fun x31=>((f_record_about r23).bind fun r47=>((f_record_Read_1 (1:Int) r47 (⟨a0.b,r24,x31⟩:T_wire_Reader)).bind fun(r53,r54,r55)=>((f_record_Read_1 (2:Int) r47 (⟨a0.b,r54,r55⟩:T_wire_Reader)).bind fun(r60,r61,r62)=>((f_record_Read_1 (4:Int) r47 (⟨a0.b,r61,r62⟩:T_wire_Reader)).bind fun(r67,r68,r69)=>((f_record_Read_1 (8:Int) r47 (⟨a0.b,r68,r69⟩:T_wire_Reader)).bind fun(r74,r75,r76)=>((f_record_Read_1 (16:Int) r47 (⟨a0.b,r75,r76⟩:T_wire_Reader)).bind fun(r81,r82,r83)=>((f_record_Read_1 (32:Int) r47 (⟨a0.b,r82,r83⟩:T_wire_Reader)).bind fun(r88,r89,r90)=>((f_record_Read_1 (32:Int) r47 (⟨a0.b,r89,r90⟩:T_wire_Reader)).bind fun(r95,r96,r97)=>((f_record_Read_1 (32:Int) r47 (⟨a0.b,r96,r97⟩:T_wire_Reader)).bind fun(r102,r103,r104)=>(((if(decide ((andI .i64 r47 (64:Int))≠(0:Int)))=true then((f_wire_Reader_Flag (⟨a0.b,r103,r104⟩:T_wire_Reader)).bind fun(r114,r115,r116)=>(some (r114,r115,r116)))else(some (false,r103,r104))):Option (Bool×Int×GErr)).bind fun(x109,x110,x111)=>((f_record_Read_2 (128:Int) r47 (⟨a0.b,x110,x111⟩:T_wire_Reader)).bind fun(r121,r122,r123)=>((f_record_Read_2 (256:Int) r47 (⟨a0.b,r122,r123⟩:T_wire_Reader)).bind fun(r128,r129,r130)=>((f_record_Read_2 (512:Int) r47 (⟨a0.b,r129,r130⟩:T_wire_Reader)).bind fun(r135,r136,r137)=>((f_record_Read_2 (1024:Int) r47 (⟨a0.b,r136,r137⟩:T_wire_Reader)).bind fun(r142,r143,r144)=>((f_record_Read_3 (2048:Int) r47 (⟨a0.b,r143,r144⟩:T_wire_Reader)).bind fun(r149,r150,r151)=>((f_record_Read_3 (4096:Int) r47 (⟨a0.b,r150,r151⟩:T_wire_Reader)).bind fun(r156,r157,r158)=>((f_record_Read_3 (8192:Int) r47 (⟨a0.b,r157,r158⟩:T_wire_Reader)).bind fun(r163,r164,r165)=>((f_record_Read_3 (8192:Int) r47 (⟨a0.b,r164,r165⟩:T_wire_Reader)).bind fun(r170,r171,r172)=>((((f_wire_Reader_Err (⟨a0.b,r171,r172⟩:T_wire_Reader)).bind fun r179=>(if r179.isNil=true then((f_record_Check (⟨r23,r53,r60,r67,r74,r81,r88,r95,r102,x109,r121,r128,r135,r142,r149,r156,r163,r170⟩:T_api_Record)).bind fun r185=>(if(!r185.isNil)=true then((f_fault_Of r185).bind fun r203=>((f_wire_Reader_Refuse (⟨a0.b,r171,r172⟩:T_wire_Reader) (⟨#[114,101,99,111,114,100]⟩:ByteArray) r203).bind fun r208=>(some r208)))else(some r172)))else(some r172))):Option GErr).bind fun x177=>((f_wire_Reader_Err (⟨a0.b,r171,x177⟩:T_wire_Reader)).bind fun r212=>(if(!r212.isNil)=true then(some ((⟨(0:Int),(0:Int),(0:Int),(0:Int),(0:Int),(0:Int),(0:Int),(0:Int),(0:Int),false,(⟨#[]⟩:ByteArray),(⟨#[]⟩:ByteArray),(⟨#[]⟩:ByteArray),(⟨#[]⟩:ByteArray),[],[],[],[]⟩:T_api_Record),r171,x177))else(some ((⟨r23,r53,r60,r67,r74,r81,r88,r95,r102,x109,r121,r128,r135,r142,r149,r156,r163,r170⟩:T_api_Record),r171,x177)))))))))))))))))))))))))
def f_record_Read_post (a0:T_wire_Reader) (v0_0:Value) (g0:Nat):(T_api_Record×Int×GErr)→Value→IM→HL→Prop:=
 fun(p_:(T_api_Record×Int×GErr)) (v:Value) (M':IM) (H':HL)=>match p_ with |(r0,r1,r2)=>∃ vz0_14 cz0_14 vz0_15 cz0_15 vz0_16 cz0_16 vz0_17 cz0_17,(.agg #[(.int .i64 r0.Kind),(.int .i64 r0.Broker),(.int .i64 r0.Epoch),(.int .i64 r0.Topic),(.int .i64 r0.Part),(.int .i64 r0.Leader),(.int .i64 r0.Client),(.int .i64 r0.Serial),(.int .i64 r0.Code),(.bool r0.Flag),(.string r0.Name),(.string r0.Key),(.string r0.Value),(.string r0.Rack),vz0_14,vz0_15,vz0_16,vz0_17])=v∧H'=[[(g0, .cells #[v0_0,(.int .i64 r1),(GV r2)] 110 (0,0))],cz0_14,cz0_15,cz0_16,cz0_17]∧OwnS (Kd.int .i64) M' vz0_14 r0.Ids cz0_14∧OwnS (Kd.int .i64) M' vz0_15 r0.Isr cz0_15∧OwnS (Kd.int .i64) M' vz0_16 r0.Add cz0_16∧OwnS (Kd.int .i64) M' vz0_17 r0.Drop cz0_17
theorem f_record_Read_ok (a0:T_wire_Reader) (M:IM) (v0_0:Value) (g0:Nat) (h0_0:RS (Kd.int .u8) M v0_0 a0.b) (hE:Env M) (res:(T_api_Record×Int×GErr)) (h:f_record_Read a0=some res):
 Tri Tryz.prog 72 #[(pt g0 0)] M [[(g0, .cells #[v0_0,(Iv a0.at_),(GV a0.err)] 110 (0,0))]] (f_record_Read_post a0 v0_0 g0 res):=by
 unfold f_record_Read at h
 refine Te Tryz.func72 Z Z ?_
 intro F ρ hρ
 refine Sr (We (EO.box (cs:=#[(pt g0 0)]) (congrArg Value.cells (asE (pt g0 0) (hρ 0)))) Z ?_)
 rintro _ _ _ - ⟨rfl,g21,rfl,rfl⟩
 refine We (Al ze58 Z) Z ?_
 rintro _ _ _ - ⟨rfl,g22,rfl,rfl⟩
 refine Ns (qu (pt g0 0) (Lb 1 pl69 Z Z Z) ?_)
 obtain ⟨⟨r23,r24,r25⟩,hr26,h⟩:=bnd h
 refine Wb (We (Cb co32 (f_wire_Reader_Int_ok a0 (63:Int) _ _ _ h0_0 (r23,r24,r25) hr26) (args2 Z Z)) Z ?_)
 rintro _ M27 _ hle28 ⟨_,⟨rfl,rfl⟩,rfl⟩
 refine WL.a1 (qu (.agg #[(Iv r23),(Iv 0),(Iv 0),(Iv 0),(Iv 0),(Iv 0),(Iv 0),(Iv 0),(Iv 0),(Bv false),(Sv ⟨#[]⟩),(Sv ⟨#[]⟩),(Sv ⟨#[]⟩),(Sv ⟨#[]⟩),Zs,Zs,Zs,Zs]) (Bl (cl:=[(Iv r23),(Iv 0),(Iv 0),(Iv 0),(Iv 0),(Iv 0),(Iv 0),(Iv 0),(Iv 0),(Bv false),(Sv ⟨#[]⟩),(Sv ⟨#[]⟩),(Sv ⟨#[]⟩),(Sv ⟨#[]⟩),Zs,Zs,Zs,Zs]) ze58 fp58 (Pc (Iv r23) Z Z Pz) Z) (We (Al ze58 Z) Z ?_))
 rintro _ _ _ - ⟨rfl,g30,rfl,rfl⟩
 refine We (Sg (v:=(.agg #[(Iv r23),(Iv 0),(Iv 0),(Iv 0),(Iv 0),(Iv 0),(Iv 0),(Iv 0),(Iv 0),(Bv false),(Sv ⟨#[]⟩),(Sv ⟨#[]⟩),(Sv ⟨#[]⟩),(Sv ⟨#[]⟩),Zs,Zs,Zs,Zs])) (vl:=[(Iv r23),(Iv 0),(Iv 0),(Iv 0),(Iv 0),(Iv 0),(Iv 0),(Iv 0),(Iv 0),(Bv false),(Sv ⟨#[]⟩),(Sv ⟨#[]⟩),(Sv ⟨#[]⟩),(Sv ⟨#[]⟩),Zs,Zs,Zs,Zs]) (arr':=[(Iv r23),(Iv 0),(Iv 0),(Iv 0),(Iv 0),(Iv 0),(Iv 0),(Iv 0),(Iv 0),(Bv false),(Sv ⟨#[]⟩),(Sv ⟨#[]⟩),(Sv ⟨#[]⟩),(Sv ⟨#[]⟩),Zs,Zs,Zs,Zs]) Z sz58 Z Z (onb Z) Z Z (by kernel_rfl)) Z ?_
 rintro _ _ _ - ⟨rfl,rfl⟩
 refine Nt ?_
 obtain ⟨x31,hj32,h⟩:=bnd h
 refine Jf (fun(x31:GErr) ρ' M' H'=>M27.le M'∧[(g30, .cells #[(Iv r23),(Iv 0),(Iv 0),(Iv 0),(Iv 0),(Iv 0),(Iv 0),(Iv 0),(Iv 0),(Bv false),(Sv ⟨#[]⟩),(Sv ⟨#[]⟩),(Sv ⟨#[]⟩),(Sv ⟨#[]⟩),Zs,Zs,Zs,Zs] 58 (0,0))]::[(g0, .cells #[v0_0,(Iv r24),(GV x31)] 110 (0,0))]::[(g22, .cells z58_.toArray 58 (0,0))]::[(g21, .cells #[(pt g0 0)] 69 (0,0))]::F=H'∧ρ' 1=(pt g21 0)∧ρ' 2=(pt g22 0)∧ρ' 3=(pt g30 0)) x31 ?_ ?_
 have h:=hj32
 obtain ⟨x33,hj34,h⟩:=bnd h
 refine Jf (fun(x33:Bool) ρ' M' H'=>M27.le M'∧[(g30, .cells #[(Iv r23),(Iv 0),(Iv 0),(Iv 0),(Iv 0),(Iv 0),(Iv 0),(Iv 0),(Iv 0),(Bv false),(Sv ⟨#[]⟩),(Sv ⟨#[]⟩),(Sv ⟨#[]⟩),(Sv ⟨#[]⟩),Zs,Zs,Zs,Zs] 58 (0,0))]::[(g0, .cells #[v0_0,(Iv r24),(GV r25)] 110 (0,0))]::[(g22, .cells z58_.toArray 58 (0,0))]::[(g21, .cells #[(pt g0 0)] 69 (0,0))]::F=H'∧ρ' 1=(pt g21 0)∧ρ' 2=(pt g22 0)∧ρ' 3=(pt g30 0)∧ρ' 24=(Bv x33)) x33 ?_ ?_
 have h:=hj34
 refine Cg (qu (pt g0 0) (Lb 3 pl69 Z Z Z) ?_)
 obtain ⟨r35,hr36,h⟩:=bnd h
 refine WL.f1 ?_
 have h0_0:=h0_0.mono hle28
 refine We (Cb co36 (f_wire_Reader_Err_ok (⟨a0.b,r24,r25⟩:T_wire_Reader) _ _ _ h0_0 r35 hr36) (args1 Z)) Z ?_
 rintro _ M37 _ hle38 ⟨_,⟨rfl,rfl⟩,rfl⟩
 refine WL.a1 (qu (Bv r35.isNil) (PO.errNil Tryz.underlying31 Z) (qm (Bv r35.isNil) ?_))
 rcases Bi h with⟨hb40,h⟩ |⟨hb40,h⟩
 refine qo 15 hb40 (pt g30 0) (Fa fo58_0 Z Z) (qo 15 hb40 (Iv r23) (Lb 1 pl3 Z Z Z) (qo 15 hb40 (Bv (decide (r23<1))) (PO.lss Z Z) (On 15 Z Z hb40 (qm (Bv (decide (r23<1))) ?_))))
 rcases Bi h with⟨hb41,h⟩ |⟨hb41,h⟩
 iterate 3 refine Of 19 Z Z hb41 Z ?_
 refine qo 15 hb40 (Bv true) (Pt Z hb41 Z) (qu (Bv true) (Pt Z hb40 Z) (Wz (WQ.f3 (WQ.f3 (Qb (WQ.f3 ?_))))))
 obtain rfl:=oi h
 exact Tj ⟨hle38,Z,Z,Z,Z,Z⟩
 refine qo 19 hb41 (pt g30 0) (Fa fo58_0 Z Z) (qo 19 hb41 (Iv r23) (Lb 1 pl3 Z Z Z) (qo 19 hb41 (Bv (decide ((12:Int)<r23))) (PO.gtr Z Z) (qo 15 hb40 (Bv (decide ((12:Int)<r23))) (Pf Z hb41 Z) (qu (Bv (decide ((12:Int)<r23))) (Pt Z hb40 Z) (Wz (WQ.f3 (WQ.f3 (Qb (WQ.f3 ?_)))))))))
 obtain rfl:=oi h
 exact Tj ⟨hle38,Z,Z,Z,Z,Z⟩
 iterate 4 refine Of 15 Z Z hb40 Z ?_
 refine WL.offU 19 Z Z Z (WL.offU 19 Z Z Z (WL.offU 19 Z Z Z (Of 15 Z Z hb40 Z (qu (Bv false) (Pf Z hb40 Z) (Wz (WQ.f3 (WQ.f3 (Qb (WQ.f3 ?_)))))))))
 obtain rfl:=oi h
 exact Tj ⟨hle38,Z,Z,Z,Z,Z⟩
 rintro ρ34 M34 H34 ⟨hle34,rfl,hs34_1,hs34_2,hs34_3,hs34_24⟩
 refine Ch h hs34_24 (fun hb42 h=> ?_) (fun hb42 h=> ?_)
 refine Cg (qu (pt g0 0) (Lb 3 pl69 hs34_1 Z Z) ?_)
 obtain ⟨r43,hr44,h⟩:=bnd h
 refine WL.f1 ?_
 have h0_0:=h0_0.mono (hle28.trans hle34)
 refine We (Cb co71 (f_wire_Reader_Refuse_ok (⟨a0.b,r24,r25⟩:T_wire_Reader) (⟨#[107,105,110,100]⟩:ByteArray) (5:Int) _ _ _ h0_0 r43 hr44) (args3 Z Z Z)) Z ?_
 rintro _ M45 _ hle46 ⟨_,⟨rfl,rfl⟩,rfl⟩
 refine WL.a1 (Wz (WQ.f3 (WQ.f3 (Qb (WQ.f3 ?_)))))
 obtain rfl:=oi h
 exact Tj ⟨(hle34.trans hle46),Z,hs34_1,hs34_2,hs34_3⟩
 refine Ck ?_
 obtain rfl:=oi h
 exact Tj ⟨hle34,Z,hs34_1,hs34_2,hs34_3⟩
 rintro ρ32 M32 H32 ⟨hle32,rfl,hs32_1,hs32_2,hs32_3⟩
 refine Sr (qu (pt g30 0) (Fa fo58_0 hs32_3 Z) (qu (Iv r23) (Lb 0 pl3 Z Z Z) ?_))
 obtain ⟨r47,hr48,h⟩:=bnd h
 refine We (Ca co93 (f_record_about_ok r23 _ r47 hr48) (args1 Z)) Z ?_
 rintro _ M49 _ hle50 ⟨_,⟨rfl,rfl⟩,rfl⟩
 have L50:=(hle28.trans hle32).trans hle50
 refine WL.a0 (We (Al ze3 Z) Z ?_)
 rintro _ _ _ - ⟨rfl,g52,rfl,rfl⟩
 refine We (Es (Iv r47) [(Iv r47)] Z sz3 Z Z Z Z Z Z) Z ?_
 rintro _ _ _ - ⟨rfl,rfl⟩
 refine Ns (qu (.func (.func 99) #[] #[(pt g52 0),(pt g21 0)]) (PO.makeFunc2 (args0) (args2 (show ev _ _=(pt g52 0) from Z) (asE (Value.pointer (some ⟨g21,0,none⟩)) hs32_1))) (qa (.func (.func 99) #[] #[(pt g52 0),(pt g21 0)]) (Ns (qm (.func (.func 99) #[] #[(pt g52 0),(pt g21 0)]) ?_))))
 obtain ⟨⟨r53,r54,r55⟩,hr56,h⟩:=bnd h
 refine WL.f4 (WL.f3 (Wb ?_))
 have h0_0:=h0_0.mono L50
 refine We (EO.callV3 (first:=#[]) (cap:=#[(pt g52 0),(pt g21 0)]) co99 Z (f_record_Read_1_ok (1:Int) r47 (⟨a0.b,r24,x31⟩:T_wire_Reader) _ _ _ _ _ h0_0 (r53,r54,r55) hr56) (argsV1 Z Z)) Z ?_
 rintro _ M57 _ hle58 ⟨_,⟨rfl,rfl⟩,rfl⟩
 have L58:=L50.trans hle58
 refine WL.a3 (qm (.func (.func 99) #[] #[(pt g52 0),(pt g21 0)]) ?_)
 obtain ⟨⟨r60,r61,r62⟩,hr63,h⟩:=bnd h
 refine Wb (Wb (Wb ?_))
 have h0_0:=h0_0.mono hle58
 refine We (EO.callV3 (first:=#[]) (cap:=#[(pt g52 0),(pt g21 0)]) co99 Z (f_record_Read_1_ok (2:Int) r47 (⟨a0.b,r54,r55⟩:T_wire_Reader) _ _ _ _ _ h0_0 (r60,r61,r62) hr63) (argsV1 Z Z)) Z ?_
 rintro _ M64 _ hle65 ⟨_,⟨rfl,rfl⟩,rfl⟩
 have L65:=L58.trans hle65
 refine WL.a3 (qm (.func (.func 99) #[] #[(pt g52 0),(pt g21 0)]) ?_)
 obtain ⟨⟨r67,r68,r69⟩,hr70,h⟩:=bnd h
 refine Wb (Wb (Wb ?_))
 have h0_0:=h0_0.mono hle65
 refine We (EO.callV3 (first:=#[]) (cap:=#[(pt g52 0),(pt g21 0)]) co99 Z (f_record_Read_1_ok (4:Int) r47 (⟨a0.b,r61,r62⟩:T_wire_Reader) _ _ _ _ _ h0_0 (r67,r68,r69) hr70) (argsV1 Z Z)) Z ?_
 rintro _ M71 _ hle72 ⟨_,⟨rfl,rfl⟩,rfl⟩
 have L72:=L65.trans hle72
 refine WL.a3 (qu (pt g30 1) (Fa fo58_1 hs32_3 Z) (WL.f3 (We (Es (Iv r53) [(Iv r23),(Iv r53),(Iv 0),(Iv 0),(Iv 0),(Iv 0),(Iv 0),(Iv 0),(Iv 0),(Bv false),(Sv ⟨#[]⟩),(Sv ⟨#[]⟩),(Sv ⟨#[]⟩),(Sv ⟨#[]⟩),Zs,Zs,Zs,Zs] Z sz3 Z Z Z Z Z (by kernel_rfl)) Z ?_)))
 rintro _ _ _ - ⟨rfl,rfl⟩
 refine qu (pt g30 2) (Fa fo58_2 hs32_3 Z) (We (Es (Iv r60) [(Iv r23),(Iv r53),(Iv r60),(Iv 0),(Iv 0),(Iv 0),(Iv 0),(Iv 0),(Iv 0),(Bv false),(Sv ⟨#[]⟩),(Sv ⟨#[]⟩),(Sv ⟨#[]⟩),(Sv ⟨#[]⟩),Zs,Zs,Zs,Zs] Z sz3 Z Z Z Z Z (by kernel_rfl)) Z ?_)
 rintro _ _ _ - ⟨rfl,rfl⟩
 refine qu (pt g30 3) (Fa fo58_3 hs32_3 Z) (We (Es (Iv r67) [(Iv r23),(Iv r53),(Iv r60),(Iv r67),(Iv 0),(Iv 0),(Iv 0),(Iv 0),(Iv 0),(Bv false),(Sv ⟨#[]⟩),(Sv ⟨#[]⟩),(Sv ⟨#[]⟩),(Sv ⟨#[]⟩),Zs,Zs,Zs,Zs] Z sz3 Z Z Z Z Z (by kernel_rfl)) Z ?_)
 rintro _ _ _ - ⟨rfl,rfl⟩
 refine Ns (qm (.func (.func 99) #[] #[(pt g52 0),(pt g21 0)]) ?_)
 obtain ⟨⟨r74,r75,r76⟩,hr77,h⟩:=bnd h
 refine WL.f3 (WL.f3 (WL.f3 ?_))
 have h0_0:=h0_0.mono hle72
 refine We (EO.callV3 (first:=#[]) (cap:=#[(pt g52 0),(pt g21 0)]) co99 Z (f_record_Read_1_ok (8:Int) r47 (⟨a0.b,r68,r69⟩:T_wire_Reader) _ _ _ _ _ h0_0 (r74,r75,r76) hr77) (argsV1 Z Z)) Z ?_
 rintro _ M78 _ hle79 ⟨_,⟨rfl,rfl⟩,rfl⟩
 have L79:=L72.trans hle79
 refine WL.a3 (qm (.func (.func 99) #[] #[(pt g52 0),(pt g21 0)]) ?_)
 obtain ⟨⟨r81,r82,r83⟩,hr84,h⟩:=bnd h
 refine Wb (Wb (Wb ?_))
 have h0_0:=h0_0.mono hle79
 refine We (EO.callV3 (first:=#[]) (cap:=#[(pt g52 0),(pt g21 0)]) co99 Z (f_record_Read_1_ok (16:Int) r47 (⟨a0.b,r75,r76⟩:T_wire_Reader) _ _ _ _ _ h0_0 (r81,r82,r83) hr84) (argsV1 Z Z)) Z ?_
 rintro _ M85 _ hle86 ⟨_,⟨rfl,rfl⟩,rfl⟩
 have L86:=L79.trans hle86
 refine WL.a3 (qu (pt g30 4) (Fa fo58_4 hs32_3 Z) (WL.f3 (We (Es (Iv r74) [(Iv r23),(Iv r53),(Iv r60),(Iv r67),(Iv r74),(Iv 0),(Iv 0),(Iv 0),(Iv 0),(Bv false),(Sv ⟨#[]⟩),(Sv ⟨#[]⟩),(Sv ⟨#[]⟩),(Sv ⟨#[]⟩),Zs,Zs,Zs,Zs] Z sz3 Z Z Z Z Z (by kernel_rfl)) Z ?_)))
 rintro _ _ _ - ⟨rfl,rfl⟩
 refine qu (pt g30 5) (Fa fo58_5 hs32_3 Z) (We (Es (Iv r81) [(Iv r23),(Iv r53),(Iv r60),(Iv r67),(Iv r74),(Iv r81),(Iv 0),(Iv 0),(Iv 0),(Bv false),(Sv ⟨#[]⟩),(Sv ⟨#[]⟩),(Sv ⟨#[]⟩),(Sv ⟨#[]⟩),Zs,Zs,Zs,Zs] Z sz3 Z Z Z Z Z (by kernel_rfl)) Z ?_)
 rintro _ _ _ - ⟨rfl,rfl⟩
 refine Ns (qm (.func (.func 99) #[] #[(pt g52 0),(pt g21 0)]) ?_)
 obtain ⟨⟨r88,r89,r90⟩,hr91,h⟩:=bnd h
 refine WL.f3 (WL.f3 (WL.f3 ?_))
 have h0_0:=h0_0.mono hle86
 refine We (EO.callV3 (first:=#[]) (cap:=#[(pt g52 0),(pt g21 0)]) co99 Z (f_record_Read_1_ok (32:Int) r47 (⟨a0.b,r82,r83⟩:T_wire_Reader) _ _ _ _ _ h0_0 (r88,r89,r90) hr91) (argsV1 Z Z)) Z ?_
 rintro _ M92 _ hle93 ⟨_,⟨rfl,rfl⟩,rfl⟩
 have L93:=L86.trans hle93
 refine WL.a3 (qm (.func (.func 99) #[] #[(pt g52 0),(pt g21 0)]) ?_)
 obtain ⟨⟨r95,r96,r97⟩,hr98,h⟩:=bnd h
 refine Wb (Wb (Wb ?_))
 have h0_0:=h0_0.mono hle93
 refine We (EO.callV3 (first:=#[]) (cap:=#[(pt g52 0),(pt g21 0)]) co99 Z (f_record_Read_1_ok (32:Int) r47 (⟨a0.b,r89,r90⟩:T_wire_Reader) _ _ _ _ _ h0_0 (r95,r96,r97) hr98) (argsV1 Z Z)) Z ?_
 rintro _ M99 _ hle100 ⟨_,⟨rfl,rfl⟩,rfl⟩
 have L100:=L93.trans hle100
 refine WL.a3 (qm (.func (.func 99) #[] #[(pt g52 0),(pt g21 0)]) ?_)
 obtain ⟨⟨r102,r103,r104⟩,hr105,h⟩:=bnd h
 refine Wb (Wb (Wb ?_))
 have h0_0:=h0_0.mono hle100
 refine We (EO.callV3 (first:=#[]) (cap:=#[(pt g52 0),(pt g21 0)]) co99 Z (f_record_Read_1_ok (32:Int) r47 (⟨a0.b,r96,r97⟩:T_wire_Reader) _ _ _ _ _ h0_0 (r102,r103,r104) hr105) (argsV1 Z Z)) Z ?_
 rintro _ M106 _ hle107 ⟨_,⟨rfl,rfl⟩,rfl⟩
 have L107:=L100.trans hle107
 refine WL.a3 (qu (pt g30 6) (Fa fo58_6 hs32_3 Z) (WL.f3 (We (Es (Iv r88) [(Iv r23),(Iv r53),(Iv r60),(Iv r67),(Iv r74),(Iv r81),(Iv r88),(Iv 0),(Iv 0),(Bv false),(Sv ⟨#[]⟩),(Sv ⟨#[]⟩),(Sv ⟨#[]⟩),(Sv ⟨#[]⟩),Zs,Zs,Zs,Zs] Z sz3 Z Z Z Z Z (by kernel_rfl)) Z ?_)))
 rintro _ _ _ - ⟨rfl,rfl⟩
 refine qu (pt g30 7) (Fa fo58_7 hs32_3 Z) (We (Es (Iv r95) [(Iv r23),(Iv r53),(Iv r60),(Iv r67),(Iv r74),(Iv r81),(Iv r88),(Iv r95),(Iv 0),(Bv false),(Sv ⟨#[]⟩),(Sv ⟨#[]⟩),(Sv ⟨#[]⟩),(Sv ⟨#[]⟩),Zs,Zs,Zs,Zs] Z sz3 Z Z Z Z Z (by kernel_rfl)) Z ?_)
 rintro _ _ _ - ⟨rfl,rfl⟩
 refine qu (pt g30 8) (Fa fo58_8 hs32_3 Z) (We (Es (Iv r102) [(Iv r23),(Iv r53),(Iv r60),(Iv r67),(Iv r74),(Iv r81),(Iv r88),(Iv r95),(Iv r102),(Bv false),(Sv ⟨#[]⟩),(Sv ⟨#[]⟩),(Sv ⟨#[]⟩),(Sv ⟨#[]⟩),Zs,Zs,Zs,Zs] Z sz3 Z Z Z Z Z (by kernel_rfl)) Z ?_)
 rintro _ _ _ - ⟨rfl,rfl⟩
 refine Nt ?_
 obtain ⟨j112,hj112,h⟩:=bnd h
 refine Jf (fun(p_:(Bool×Int×GErr)) ρ' M' H'=>match p_ with |(x109,x110,x111)=>M106.le M'∧[(g30, .cells #[(Iv r23),(Iv r53),(Iv r60),(Iv r67),(Iv r74),(Iv r81),(Iv r88),(Iv r95),(Iv r102),(Bv x109),(Sv ⟨#[]⟩),(Sv ⟨#[]⟩),(Sv ⟨#[]⟩),(Sv ⟨#[]⟩),Zs,Zs,Zs,Zs] 58 (0,0))]::[(g52, .cells #[(Iv r47)] 3 (0,0))]::[(g0, .cells #[v0_0,(Iv x110),(GV x111)] 110 (0,0))]::[(g21, .cells #[(pt g0 0)] 69 (0,0))]::[(g22, .cells z58_.toArray 58 (0,0))]::F=H'∧ρ' 1=(pt g21 0)∧ρ' 2=(pt g22 0)∧ρ' 3=(pt g30 0)∧ρ' 4=(pt g52 0)) j112 ?_ ?_
 have h:=hj112
 refine Sr (qu (Iv r47) (Lb 1 pl3 Z Z Z) (qu (Iv (andI .i64 r47 (64:Int))) (PO.and Z Z) (qu (Bv (decide ((andI .i64 r47 (64:Int))≠0))) (PO.neq Z Z) (Nt (Ch h Z (fun hb113 h=> ?_) (fun hb113 h=> ?_))))))
 refine Cg (qu (pt g0 0) (Lb 3 pl69 hs32_1 Z Z) ?_)
 obtain ⟨⟨r114,r115,r116⟩,hr117,h⟩:=bnd h
 refine Wb ?_
 have h0_0:=h0_0.mono hle107
 refine We (Cb co34 (f_wire_Reader_Flag_ok (⟨a0.b,r103,r104⟩:T_wire_Reader) _ _ _ h0_0 (r114,r115,r116) hr117) (args1 Z)) Z ?_
 rintro _ M118 _ hle119 ⟨_,⟨rfl,rfl⟩,rfl⟩
 refine WL.a1 (qu (pt g30 9) (Fa fo58_9 hs32_3 Z) (WL.f1 (We (Es (Bv r114) [(Iv r23),(Iv r53),(Iv r60),(Iv r67),(Iv r74),(Iv r81),(Iv r88),(Iv r95),(Iv r102),(Bv r114),(Sv ⟨#[]⟩),(Sv ⟨#[]⟩),(Sv ⟨#[]⟩),(Sv ⟨#[]⟩),Zs,Zs,Zs,Zs] Z sz4 Z Z Z Z Z (by kernel_rfl)) Z ?_)))
 rintro _ _ _ - ⟨rfl,rfl⟩
 refine Wz (WQ.f4 (WQ.f4 (WQ.f3 (WQ.f4 (WQ.f4 ?_)))))
 obtain rfl:=oi h
 exact Tj ⟨hle119,Z,hs32_1,hs32_2,hs32_3,Z⟩
 refine Ck ?_
 obtain rfl:=oi h
 exact Tj ⟨lr,Z,hs32_1,hs32_2,hs32_3,Z⟩
 obtain ⟨x109,x110,x111⟩:=j112
 rintro ρ112 M112 H112 ⟨hle112,rfl,hs112_1,hs112_2,hs112_3,hs112_4⟩
 have L112:=L107.trans hle112
 refine Sr (qu (.func (.func 100) #[] #[(pt g52 0),(pt g21 0)]) (PO.makeFunc2 (args0) (args2 (asE (Value.pointer (some ⟨g52,0,none⟩)) hs112_4) (asE (Value.pointer (some ⟨g21,0,none⟩)) hs112_1))) (qa (.func (.func 100) #[] #[(pt g52 0),(pt g21 0)]) (Ns (qm (.func (.func 100) #[] #[(pt g52 0),(pt g21 0)]) ?_))))
 obtain ⟨⟨r121,r122,r123⟩,hr124,h⟩:=bnd h
 refine WL.f3 (WL.f3 (WL.f3 ?_))
 have h0_0:=h0_0.mono (hle107.trans hle112)
 refine We (EO.callV3 (first:=#[]) (cap:=#[(pt g52 0),(pt g21 0)]) co100 Z (f_record_Read_2_ok (128:Int) r47 (⟨a0.b,x110,x111⟩:T_wire_Reader) _ _ _ _ _ h0_0 (r121,r122,r123) hr124) (argsV1 Z Z)) Z ?_
 rintro _ M125 _ hle126 ⟨_,⟨rfl,rfl⟩,rfl⟩
 have L126:=L112.trans hle126
 refine WL.a3 (qm (.func (.func 100) #[] #[(pt g52 0),(pt g21 0)]) ?_)
 obtain ⟨⟨r128,r129,r130⟩,hr131,h⟩:=bnd h
 refine Wb (Wb (Wb ?_))
 have h0_0:=h0_0.mono hle126
 refine We (EO.callV3 (first:=#[]) (cap:=#[(pt g52 0),(pt g21 0)]) co100 Z (f_record_Read_2_ok (256:Int) r47 (⟨a0.b,r122,r123⟩:T_wire_Reader) _ _ _ _ _ h0_0 (r128,r129,r130) hr131) (argsV1 Z Z)) Z ?_
 rintro _ M132 _ hle133 ⟨_,⟨rfl,rfl⟩,rfl⟩
 have L133:=L126.trans hle133
 refine WL.a3 (qm (.func (.func 100) #[] #[(pt g52 0),(pt g21 0)]) ?_)
 obtain ⟨⟨r135,r136,r137⟩,hr138,h⟩:=bnd h
 refine Wb (Wb (Wb ?_))
 have h0_0:=h0_0.mono hle133
 refine We (EO.callV3 (first:=#[]) (cap:=#[(pt g52 0),(pt g21 0)]) co100 Z (f_record_Read_2_ok (512:Int) r47 (⟨a0.b,r129,r130⟩:T_wire_Reader) _ _ _ _ _ h0_0 (r135,r136,r137) hr138) (argsV1 Z Z)) Z ?_
 rintro _ M139 _ hle140 ⟨_,⟨rfl,rfl⟩,rfl⟩
 have L140:=L133.trans hle140
 refine WL.a3 (qm (.func (.func 100) #[] #[(pt g52 0),(pt g21 0)]) ?_)
 obtain ⟨⟨r142,r143,r144⟩,hr145,h⟩:=bnd h
 refine Wb (Wb (Wb ?_))
 have h0_0:=h0_0.mono hle140
 refine We (EO.callV3 (first:=#[]) (cap:=#[(pt g52 0),(pt g21 0)]) co100 Z (f_record_Read_2_ok (1024:Int) r47 (⟨a0.b,r136,r137⟩:T_wire_Reader) _ _ _ _ _ h0_0 (r142,r143,r144) hr145) (argsV1 Z Z)) Z ?_
 rintro _ M146 _ hle147 ⟨_,⟨rfl,rfl⟩,rfl⟩
 have L147:=L140.trans hle147
 refine WL.a3 (qu (pt g30 10) (Fa fo58_10 hs112_3 Z) (WL.f3 (We (Es (Sv r121) [(Iv r23),(Iv r53),(Iv r60),(Iv r67),(Iv r74),(Iv r81),(Iv r88),(Iv r95),(Iv r102),(Bv x109),(Sv r121),(Sv ⟨#[]⟩),(Sv ⟨#[]⟩),(Sv ⟨#[]⟩),Zs,Zs,Zs,Zs] Z sz9 Z Z Z Z Z (by kernel_rfl)) Z ?_)))
 rintro _ _ _ - ⟨rfl,rfl⟩
 refine qu (pt g30 11) (Fa fo58_11 hs112_3 Z) (We (Es (Sv r128) [(Iv r23),(Iv r53),(Iv r60),(Iv r67),(Iv r74),(Iv r81),(Iv r88),(Iv r95),(Iv r102),(Bv x109),(Sv r121),(Sv r128),(Sv ⟨#[]⟩),(Sv ⟨#[]⟩),Zs,Zs,Zs,Zs] Z sz9 Z Z Z Z Z (by kernel_rfl)) Z ?_)
 rintro _ _ _ - ⟨rfl,rfl⟩
 refine qu (pt g30 12) (Fa fo58_12 hs112_3 Z) (We (Es (Sv r135) [(Iv r23),(Iv r53),(Iv r60),(Iv r67),(Iv r74),(Iv r81),(Iv r88),(Iv r95),(Iv r102),(Bv x109),(Sv r121),(Sv r128),(Sv r135),(Sv ⟨#[]⟩),Zs,Zs,Zs,Zs] Z sz9 Z Z Z Z Z (by kernel_rfl)) Z ?_)
 rintro _ _ _ - ⟨rfl,rfl⟩
 refine qu (pt g30 13) (Fa fo58_13 hs112_3 Z) (We (Es (Sv r142) [(Iv r23),(Iv r53),(Iv r60),(Iv r67),(Iv r74),(Iv r81),(Iv r88),(Iv r95),(Iv r102),(Bv x109),(Sv r121),(Sv r128),(Sv r135),(Sv r142),Zs,Zs,Zs,Zs] Z sz9 Z Z Z Z Z (by kernel_rfl)) Z ?_)
 rintro _ _ _ - ⟨rfl,rfl⟩
 refine Ns (qu (.func (.func 101) #[] #[(pt g52 0),(pt g21 0)]) (PO.makeFunc2 (args0) (args2 (asE (Value.pointer (some ⟨g52,0,none⟩)) hs112_4) (asE (Value.pointer (some ⟨g21,0,none⟩)) hs112_1))) (qa (.func (.func 101) #[] #[(pt g52 0),(pt g21 0)]) (Ns (qm (.func (.func 101) #[] #[(pt g52 0),(pt g21 0)]) ?_))))
 obtain ⟨⟨r149,r150,r151⟩,hr152,h⟩:=bnd h
 refine WL.f3 (WL.f3 (WL.f3 ?_))
 have h0_0:=h0_0.mono hle147
 refine We (EO.callV3 (first:=#[]) (cap:=#[(pt g52 0),(pt g21 0)]) co101 Z (f_record_Read_3_ok (2048:Int) r47 (⟨a0.b,r143,r144⟩:T_wire_Reader) _ _ _ _ _ h0_0 (r149,r150,r151) hr152) (argsV1 Z Z)) Z ?_
 rintro _ M153 _ hle154 ⟨_,⟨vq155,cq155,rfl,rfl,hq155⟩,rfl⟩
 have L154:=L147.trans hle154
 refine WL.a4 (qm (.func (.func 101) #[] #[(pt g52 0),(pt g21 0)]) ?_)
 obtain ⟨⟨r156,r157,r158⟩,hr159,h⟩:=bnd h
 refine Wb (Wb (Wb ?_))
 have h0_0:=h0_0.mono hle154
 refine We (EO.callV3 (first:=#[]) (cap:=#[(pt g52 0),(pt g21 0)]) co101 Z (f_record_Read_3_ok (4096:Int) r47 (⟨a0.b,r150,r151⟩:T_wire_Reader) _ _ _ _ _ h0_0 (r156,r157,r158) hr159) (argsV1 Z Z)) Z ?_
 rintro _ M160 _ hle161 ⟨_,⟨vq162,cq162,rfl,rfl,hq162⟩,rfl⟩
 have L161:=L154.trans hle161
 refine WL.a4 (qm (.func (.func 101) #[] #[(pt g52 0),(pt g21 0)]) ?_)
 obtain ⟨⟨r163,r164,r165⟩,hr166,h⟩:=bnd h
 refine Wb (Wb (Wb ?_))
 have h0_0:=h0_0.mono hle161
 refine We (EO.callV3 (first:=#[]) (cap:=#[(pt g52 0),(pt g21 0)]) co101 Z (f_record_Read_3_ok (8192:Int) r47 (⟨a0.b,r157,r158⟩:T_wire_Reader) _ _ _ _ _ h0_0 (r163,r164,r165) hr166) (argsV1 Z Z)) Z ?_
 rintro _ M167 _ hle168 ⟨_,⟨vq169,cq169,rfl,rfl,hq169⟩,rfl⟩
 have L168:=L161.trans hle168
 refine WL.a4 (qm (.func (.func 101) #[] #[(pt g52 0),(pt g21 0)]) ?_)
 obtain ⟨⟨r170,r171,r172⟩,hr173,h⟩:=bnd h
 refine Wb (Wb (Wb ?_))
 have h0_0:=h0_0.mono hle168
 refine We (EO.callV3 (first:=#[]) (cap:=#[(pt g52 0),(pt g21 0)]) co101 Z (f_record_Read_3_ok (8192:Int) r47 (⟨a0.b,r164,r165⟩:T_wire_Reader) _ _ _ _ _ h0_0 (r170,r171,r172) hr173) (argsV1 Z Z)) Z ?_
 rintro _ M174 _ hle175 ⟨_,⟨vq176,cq176,rfl,rfl,hq176⟩,rfl⟩
 have L175:=L168.trans hle175
 refine WL.a4 (qu (pt g30 14) (Fa fo58_14 hs112_3 Z) (WL.f7 ?_))
 have hq155:=hq155.mono ((hle161.trans hle168).trans hle175)
 refine We (Es vq155 [(Iv r23),(Iv r53),(Iv r60),(Iv r67),(Iv r74),(Iv r81),(Iv r88),(Iv r95),(Iv r102),(Bv x109),(Sv r121),(Sv r128),(Sv r135),(Sv r142),vq155,Zs,Zs,Zs] hq155.cells sz56 Z Z (Ow hq155) Z Z (by kernel_rfl)) Z ?_
 rintro _ _ _ - ⟨rfl,rfl⟩
 refine qu (pt g30 15) (Fa fo58_15 hs112_3 Z) ?_
 have hq162:=hq162.mono (hle168.trans hle175)
 refine We (Es vq162 [(Iv r23),(Iv r53),(Iv r60),(Iv r67),(Iv r74),(Iv r81),(Iv r88),(Iv r95),(Iv r102),(Bv x109),(Sv r121),(Sv r128),(Sv r135),(Sv r142),vq155,vq162,Zs,Zs] hq162.cells sz56 Z Z (Ow hq162) Z Z (by kernel_rfl)) Z ?_
 rintro _ _ _ - ⟨rfl,rfl⟩
 refine qu (pt g30 16) (Fa fo58_16 hs112_3 Z) ?_
 have hq169:=hq169.mono hle175
 refine We (Es vq169 [(Iv r23),(Iv r53),(Iv r60),(Iv r67),(Iv r74),(Iv r81),(Iv r88),(Iv r95),(Iv r102),(Bv x109),(Sv r121),(Sv r128),(Sv r135),(Sv r142),vq155,vq162,vq169,Zs] hq169.cells sz56 Z Z (Ow hq169) Z Z (by kernel_rfl)) Z ?_
 rintro _ _ _ - ⟨rfl,rfl⟩
 refine qu (pt g30 17) (Fa fo58_17 hs112_3 Z) (We (Es vq176 [(Iv r23),(Iv r53),(Iv r60),(Iv r67),(Iv r74),(Iv r81),(Iv r88),(Iv r95),(Iv r102),(Bv x109),(Sv r121),(Sv r128),(Sv r135),(Sv r142),vq155,vq162,vq169,vq176] hq176.cells sz56 Z Z (Ow hq176) Z Z (by kernel_rfl)) Z ?_)
 rintro _ _ _ - ⟨rfl,rfl⟩
 refine Nt ?_
 obtain ⟨x177,hj178,h⟩:=bnd h
 refine Jf (fun(x177:GErr) ρ' M' H'=>M174.le M'∧[(g30, .cells #[(Iv r23),(Iv r53),(Iv r60),(Iv r67),(Iv r74),(Iv r81),(Iv r88),(Iv r95),(Iv r102),(Bv x109),(Sv r121),(Sv r128),(Sv r135),(Sv r142),vq155,vq162,vq169,vq176] 58 (0,0))]::[(g52, .cells #[(Iv r47)] 3 (0,0))]::[(g0, .cells #[v0_0,(Iv r171),(GV x177)] 110 (0,0))]::[(g21, .cells #[(pt g0 0)] 69 (0,0))]::[(g22, .cells z58_.toArray 58 (0,0))]::cq155::cq162::cq169::cq176::F=H'∧ρ' 1=(pt g21 0)∧ρ' 2=(pt g22 0)∧ρ' 3=(pt g30 0)) x177 ?_ ?_
 have h:=hj178
 refine Sr (qu (pt g0 0) (Lb 3 pl69 hs112_1 Z Z) ?_)
 obtain ⟨r179,hr180,h⟩:=bnd h
 refine Wb ?_
 have h0_0:=h0_0.mono hle175
 refine We (Cb co36 (f_wire_Reader_Err_ok (⟨a0.b,r171,r172⟩:T_wire_Reader) _ _ _ h0_0 r179 hr180) (args1 Z)) Z ?_
 rintro _ M181 _ hle182 ⟨_,⟨rfl,rfl⟩,rfl⟩
 refine WL.a1 (qu (Bv r179.isNil) (PO.errNil Tryz.underlying31 Z) (Nt (Ch h Z (fun hb184 h=> ?_) (fun hb184 h=> ?_))))
 refine Sr (qu (.agg #[(Iv r23),(Iv r53),(Iv r60),(Iv r67),(Iv r74),(Iv r81),(Iv r88),(Iv r95),(Iv r102),(Bv x109),(Sv r121),(Sv r128),(Sv r135),(Sv r142),vq155,vq162,vq169,vq176]) (La (cs:=[(Iv r23),(Iv r53),(Iv r60),(Iv r67),(Iv r74),(Iv r81),(Iv r88),(Iv r95),(Iv r102),(Bv x109),(Sv r121),(Sv r128),(Sv r135),(Sv r142),vq155,vq162,vq169,vq176]) 1 ag58 sz58 hs112_3 Z Z) ?_)
 obtain ⟨r185,hr186,h⟩:=bnd h
 refine WL.f4 (WL.f5 (WL.f6 (WL.f7 ?_)))
 have hq155:=hq155.mono hle182
 have hq162:=hq162.mono hle182
 have hq169:=hq169.mono hle182
 have hq176:=hq176.mono hle182
 refine We (EO.call4 co77 (Tri.lend hq155.excl fun w0_ H0_ hs0_=>(Tri.lend hq162.excl fun w1_ H1_ hs1_=>(Tri.lend hq169.excl fun w2_ H2_ hs2_=>(Tri.lend hq176.excl fun w3_ H3_ hs3_=>(f_record_Check_ok (⟨r23,r53,r60,r67,r74,r81,r88,r95,r102,x109,r121,r128,r135,r142,r149,r156,r163,r170⟩:T_api_Record) _ _ _ _ _ ((((hq155.rs hs0_).mono (IM.le_add _ _)).mono (IM.le_add _ _)).mono (IM.le_add _ _)) ((((hq162.mono (IM.le_add _ _)).rs hs1_).mono (IM.le_add _ _)).mono (IM.le_add _ _)) ((((hq169.mono (IM.le_add _ _)).mono (IM.le_add _ _)).rs hs2_).mono (IM.le_add _ _)) ((((hq176.mono (IM.le_add _ _)).mono (IM.le_add _ _)).mono (IM.le_add _ _)).rs hs3_) r185 hr186))))) (args1 Z)) Z ?_
 rintro _ _ _ hle188 ⟨_,⟨Ml199,Hl200,hll201,rfl,rfl,⟨Ml196,Hl197,hll198,rfl,rfl,⟨Ml193,Hl194,hll195,rfl,rfl,⟨Ml190,Hl191,hll192,rfl,rfl,⟨rfl,rfl⟩⟩⟩⟩⟩,rfl⟩
 refine WL.a4 (qa (GV r185) (Ns (qm (GV r185) (qu (Bv (!r185.isNil)) (PO.errNotNil Tryz.underlying31 Z) (Nt (Ch h Z (fun hb202 h=> ?_) (fun hb202 h=> ?_)))))))
 refine WC.draw [0,0,2,7] (.pure 0 (.pure 1 (.alt 2 (.alt 3 .done .none) .none))) mixed (by kernel_rfl) (qt (pt g0 0) Z (Lb 7 pl69 hs112_1 Z Z) (qt (GV r185) Z (Mv Z) ?_))
 obtain ⟨r203,hr204,h⟩:=bnd h
 have hE:=hE.mono ((L175.trans hle182).trans hle188)
 refine Ta Z (Ca co45 (f_fault_Of_ok r185 _ hE r203 hr204) (args1 Z)) Z ?_ ?_
 rintro _ M205 _ hle206 ⟨_,⟨rfl,rfl⟩,rfl⟩
 refine⟨(Sk 1 Z (Ss Z (Lb 7 pl69 hs112_1 Z Z) Z trivial)), ?_⟩
 refine WT.a0 ?_
 obtain ⟨r208,hr209,h⟩:=bnd h
 refine WT.f4 ?_
 have h0_0:=h0_0.mono ((hle182.trans hle188).trans hle206)
 refine Ta Z (Cb co71 (f_wire_Reader_Refuse_ok (⟨a0.b,r171,r172⟩:T_wire_Reader) (⟨#[114,101,99,111,114,100]⟩:ByteArray) r203 _ _ _ h0_0 r208 hr209) (args3 Z Z Z)) Z ?_ ?_
 rintro _ M210 _ hle211 ⟨_,⟨rfl,rfl⟩,rfl⟩
 refine⟨(Sl Z), ?_⟩
 refine WT.a1 (Ti (WQ.f4 (WQ.f4 (WQ.f4 (WQ.f4 (WQ.f8 (WQ.f8 (WQ.f6 (WQ.f8 (WQ.f8 ?_))))))))))
 obtain rfl:=oi h
 exact Tj ⟨(((hle182.trans hle188).trans hle206).trans hle211),Z,hs112_1,hs112_2,hs112_3⟩
 exact Tz
 exact Tz
 refine Ck (WQ.f3 (WQ.f3 (WQ.f3 (WQ.f3 (WQ.f8 (WQ.f8 (WQ.f6 (WQ.f8 (WQ.f8 ?_)))))))))
 obtain rfl:=oi h
 exact Tj ⟨(hle182.trans hle188),Z,hs112_1,hs112_2,hs112_3⟩
 refine Ck (WQ.f4 (WQ.f5 (WQ.f6 (WQ.f7 (WQ.f8 (WQ.f8 (WQ.f6 (WQ.f8 (WQ.f8 ?_)))))))))
 obtain rfl:=oi h
 exact Tj ⟨hle182,Z,hs112_1,hs112_2,hs112_3⟩
 rintro ρ178 M178 H178 ⟨hle178,rfl,hs178_1,hs178_2,hs178_3⟩
 refine Cs (Sr (qu (pt g0 0) (Lb 3 pl69 hs178_1 Z Z) ?_))
 obtain ⟨r212,hr213,h⟩:=bnd h
 refine Wb ?_
 have h0_0:=h0_0.mono (hle175.trans hle178)
 refine We (Cb co36 (f_wire_Reader_Err_ok (⟨a0.b,r171,x177⟩:T_wire_Reader) _ _ _ h0_0 r212 hr213) (args1 Z)) Z ?_
 rintro _ M214 _ hle215 ⟨_,⟨rfl,rfl⟩,rfl⟩
 refine WL.a1 (qu (Bv (!r212.isNil)) (PO.errNotNil Tryz.underlying31 Z) (Nt (Ch h Z (fun hb217 h=> ?_) (fun hb217 h=> ?_))))
 refine Sr (qu (.agg z58_.toArray) (Bl (cl:=z58_) ze58 fp58 Pz Z) (WL.f4 (We (Sg (v:=(.agg z58_.toArray)) (vl:=z58_) (arr':=z58_) Z sz58 hs178_2 Z (onb Z) Z Z (by kernel_rfl)) Z ?_)))
 rintro _ _ _ - ⟨rfl,rfl⟩
 refine Nt (Cr (Tr (WQ.e0 (WQ.e0 (WQ.e0 (WQ.e0 (WQ.f6 (Dr (WQ.f6 (Dr (WQ.f6 ?_)))))))))))
 refine Dr (WQ.f6 (Dr (WQ.f6 (Dr (WQ.f6 (Dr (WQ.f6 (Dr (Qa (Qb (WQ.f3 ?_)))))))))))
 exact WQ.f5 (WQ.f5 (Rd h [[(g0, .cells #[v0_0,(Iv r171),(GV x177)] 110 (0,0))],[],[],[],[]] (fun _ hs=>hs.drop) (resultsL1 Z (Rc (cs:=z58_) 0 ag58 sz58 hs178_2 Z Z)) ((L175.trans hle178).trans hle215) ⟨Zs,[],Zs,[],Zs,[],Zs,[],Z,Z,(OwnS.nil _ _),(OwnS.nil _ _),(OwnS.nil _ _),(OwnS.nil _ _)⟩))
 refine Ck (Tc (Sr (qu (.agg #[(Iv r23),(Iv r53),(Iv r60),(Iv r67),(Iv r74),(Iv r81),(Iv r88),(Iv r95),(Iv r102),(Bv x109),(Sv r121),(Sv r128),(Sv r135),(Sv r142),vq155,vq162,vq169,vq176]) (La (cs:=[(Iv r23),(Iv r53),(Iv r60),(Iv r67),(Iv r74),(Iv r81),(Iv r88),(Iv r95),(Iv r102),(Bv x109),(Sv r121),(Sv r128),(Sv r135),(Sv r142),vq155,vq162,vq169,vq176]) 1 ag58 sz58 hs178_3 Z Z) (WL.f4 ?_))))
 have hq155:=hq155.mono (hle178.trans hle215)
 have hq162:=hq162.mono (hle178.trans hle215)
 have hq169:=hq169.mono (hle178.trans hle215)
 have hq176:=hq176.mono (hle178.trans hle215)
 refine We (Sg (v:=(.agg #[(Iv r23),(Iv r53),(Iv r60),(Iv r67),(Iv r74),(Iv r81),(Iv r88),(Iv r95),(Iv r102),(Bv x109),(Sv r121),(Sv r128),(Sv r135),(Sv r142),vq155,vq162,vq169,vq176])) (vl:=[(Iv r23),(Iv r53),(Iv r60),(Iv r67),(Iv r74),(Iv r81),(Iv r88),(Iv r95),(Iv r102),(Bv x109),(Sv r121),(Sv r128),(Sv r135),(Sv r142),vq155,vq162,vq169,vq176]) (arr':=[(Iv r23),(Iv r53),(Iv r60),(Iv r67),(Iv r74),(Iv r81),(Iv r88),(Iv r95),(Iv r102),(Bv x109),(Sv r121),(Sv r128),(Sv r135),(Sv r142),vq155,vq162,vq169,vq176]) Z sz58 hs178_2 Z (onesOf (Oc Z (Oc Z (Oc Z (Oc Z (Oc Z (Oc Z (Oc Z (Oc Z (Oc Z (Oc Z (Oc Z (Oc Z (Oc Z (Oc Z (Oc (Ow hq155) (Oc (Ow hq162) (Oc (Ow hq169) (Oc (Ow hq176) Oz))))))))))))))))))) Z Z (by kernel_rfl)) Z ?_
 rintro _ _ _ - ⟨rfl,rfl⟩
 exact Nt (Cr (Qb (Dr (Qb (Dr (Qb (Dr (Rd h [[(g0, .cells #[v0_0,(Iv r171),(GV x177)] 110 (0,0))],cq155,cq162,cq169,cq176] (fun _ hs=>hs.drop) (resultsL1 Z (Rc (cs:=[(Iv r23),(Iv r53),(Iv r60),(Iv r67),(Iv r74),(Iv r81),(Iv r88),(Iv r95),(Iv r102),(Bv x109),(Sv r121),(Sv r128),(Sv r135),(Sv r142),vq155,vq162,vq169,vq176]) 0 ag58 sz58 hs178_2 Z Z)) ((L175.trans hle178).trans hle215) ⟨vq155,cq155,vq162,cq162,vq169,cq169,vq176,cq176,Z,Z,hq155,hq162,hq169,hq176⟩))))))))
noncomputable def f_batch_Next_l0 (a0:T_wire_Reader) (r42:Int) (s_:(Int×(List T_api_Record)×Int×GErr)):Option ((Int×(List T_api_Record)×Int×GErr)⊕(Int×GErr×(List T_api_Record))):=
 match s_ with
 |(x70,x71,x72,x73)=>
 (((if(decide (x70<r42))=true then((f_wire_Reader_Err (⟨a0.b,x72,x73⟩:T_wire_Reader)).bind fun r80=>(some r80.isNil))else(some false)):Option Bool).bind fun x77=>(if x77=true then((f_record_Read (⟨a0.b,x72,x73⟩:T_wire_Reader)).bind fun(r86,r87,r88)=>(grd (x71.length+[r86].length≤274877906944) (some (Sum.inl (IntKind.i64.wrap (x70+(1:Int)),x71++[r86],r87,r88)))))else(some (Sum.inr (x72,x73,x71)))))
noncomputable def f_batch_Next (a0:T_wire_Reader):Option (T_api_Batch×Int×GErr):=
 ((f_wire_Reader_At a0).bind fun r22=>((f_wire_Reader_Int a0 (1073741824:Int)).bind fun(r27,r28,r29)=>((f_wire_Reader_Int (⟨a0.b,r28,r29⟩:T_wire_Reader) (1073741824:Int)).bind fun(r34,r35,r36)=>((f_wire_Reader_Int (⟨a0.b,r35,r36⟩:T_wire_Reader) (64:Int)).bind fun(r42,r43,r44)=>((((((f_wire_Reader_Err (⟨a0.b,r43,r44⟩:T_wire_Reader)).bind fun r53=>(if r53.isNil=true then(if(decide (r27=(0:Int)))=true then(some true)else(some (decide (r42=(0:Int)))))else(some false))):Option Bool).bind fun x51=>(if x51=true then((f_wire_Reader_Refuse (⟨a0.b,r43,r44⟩:T_wire_Reader) (⟨#[98,97,116,99,104]⟩:ByteArray) (2:Int)).bind fun r61=>(some r61))else(some r44))):Option GErr).bind fun x49=>((((iter (f_batch_Next_l0 a0 r42) ((0:Int),[],r43,x49)).bind (fun(x74,x75,x76)=>(some (x74,x75,x76)))):Option (Int×GErr×(List T_api_Record))).bind fun(x65,x66,x67)=>((((f_wire_Reader_At (⟨a0.b,x65,x66⟩:T_wire_Reader)).bind fun r123=>(if(decide ((16384:Int)<(IntKind.i64.wrap (r123 - r22))))=true then((f_wire_Reader_Refuse (⟨a0.b,x65,x66⟩:T_wire_Reader) (⟨#[98,97,116,99,104]⟩:ByteArray) (6:Int)).bind fun r129=>(some r129))else(some x66))):Option GErr).bind fun x121=>((f_wire_Reader_Err (⟨a0.b,x65,x121⟩:T_wire_Reader)).bind fun r133=>(if(!r133.isNil)=true then(some ((⟨(0:Int),(0:Int),[]⟩:T_api_Batch),x65,x121))else(some ((⟨r27,r34,x67⟩:T_api_Batch),x65,x121)))))))))))
def f_batch_Next_post (a0:T_wire_Reader) (v0_0:Value) (g0:Nat):(T_api_Batch×Int×GErr)→Value→IM→HL→Prop:=
 fun(p_:(T_api_Batch×Int×GErr)) (v:Value) (M':IM) (H':HL)=>match p_ with |(r0,r1,r2)=>∃ vz0_2 cz0_2,(.agg #[(.int .i64 r0.Term),(.int .i64 r0.Base),vz0_2])=v∧H'=[[(g0, .cells #[v0_0,(.int .i64 r1),(GV r2)] 110 (0,0))],cz0_2]∧OwnS kd_api_Record M' vz0_2 r0.Records cz0_2
theorem f_batch_Next_ok (a0:T_wire_Reader) (M:IM) (v0_0:Value) (g0:Nat) (h0_0:RS (Kd.int .u8) M v0_0 a0.b) (hE:Env M) (res:(T_api_Batch×Int×GErr)) (h:f_batch_Next a0=some res):
 Tri Tryz.prog 37 #[(pt g0 0)] M [[(g0, .cells #[v0_0,(Iv a0.at_),(GV a0.err)] 110 (0,0))]] (f_batch_Next_post a0 v0_0 g0 res):=by
 unfold f_batch_Next at h
 refine Te Tryz.func37 Z Z ?_
 intro F ρ hρ
 refine Sr (We (Al ze55 Z) Z ?_)
 rintro _ _ _ - ⟨rfl,g21,rfl,rfl⟩
 refine Ns (qM (pt g0 0) (hρ 0) ?_)
 obtain ⟨r22,hr23,h⟩:=bnd h
 refine WL.f1 (We (Cb co70 (f_wire_Reader_At_ok a0 _ _ _ h0_0 r22 hr23) (args1 Z)) Z ?_)
 rintro _ M24 _ hle25 ⟨_,⟨rfl,rfl⟩,rfl⟩
 refine WL.a1 (qa (Iv r22) (Ns (qM (pt g0 0) (hρ 0) ?_)))
 obtain ⟨⟨r27,r28,r29⟩,hr30,h⟩:=bnd h
 have h0_0:=h0_0.mono hle25
 refine We (Cb co32 (f_wire_Reader_Int_ok a0 (1073741824:Int) _ _ _ h0_0 (r27,r28,r29) hr30) (args2 Z Z)) Z ?_
 rintro _ M31 _ hle32 ⟨_,⟨rfl,rfl⟩,rfl⟩
 refine WL.a1 (qM (pt g0 0) (hρ 0) ?_)
 obtain ⟨⟨r34,r35,r36⟩,hr37,h⟩:=bnd h
 have h0_0:=h0_0.mono hle32
 refine We (Cb co32 (f_wire_Reader_Int_ok (⟨a0.b,r28,r29⟩:T_wire_Reader) (1073741824:Int) _ _ _ h0_0 (r34,r35,r36) hr37) (args2 Z Z)) Z ?_
 rintro _ M38 _ hle39 ⟨_,⟨rfl,rfl⟩,rfl⟩
 refine WL.a1 (qu (.agg #[(Iv r27),(Iv r34),Zs]) (Bl (cl:=[(Iv r27),(Iv r34),Zs]) ze55 fp55 (Pc (Iv r27) Z Z (Pc (Iv r34) Z Z Pz)) Z) (We (Al ze55 Z) Z ?_))
 rintro _ _ _ - ⟨rfl,g41,rfl,rfl⟩
 refine We (Sg (v:=(.agg #[(Iv r27),(Iv r34),Zs])) (vl:=[(Iv r27),(Iv r34),Zs]) (arr':=[(Iv r27),(Iv r34),Zs]) Z sz55 Z Z (onb Z) Z Z Z) Z ?_
 rintro _ _ _ - ⟨rfl,rfl⟩
 refine Ns (qM (pt g0 0) (hρ 0) ?_)
 obtain ⟨⟨r42,r43,r44⟩,hr45,h⟩:=bnd h
 refine WL.f1 ?_
 have h0_0:=h0_0.mono hle39
 refine We (Cb co32 (f_wire_Reader_Int_ok (⟨a0.b,r35,r36⟩:T_wire_Reader) (64:Int) _ _ _ h0_0 (r42,r43,r44) hr45) (args2 Z Z)) Z ?_
 rintro _ M46 _ hle47 ⟨_,⟨rfl,rfl⟩,rfl⟩
 have L47:=((hle25.trans hle32).trans hle39).trans hle47
 refine WL.a1 (qa (Iv r42) (Nt ?_))
 obtain ⟨x49,hj50,h⟩:=bnd h
 refine Jf (fun(x49:GErr) ρ' M' H'=>M46.le M'∧[(g0, .cells #[v0_0,(Iv r43),(GV x49)] 110 (0,0))]::[(g41, .cells #[(Iv r27),(Iv r34),Zs] 55 (0,0))]::[(g21, .cells #[(Iv 0),(Iv 0),Zs] 55 (0,0))]::F=H'∧ρ' 0=(pt g0 0)∧ρ' 2=(pt g21 0)∧ρ' 3=(Iv r22)∧ρ' 4=(pt g41 0)∧ρ' 5=(Iv r42)) x49 ?_ ?_
 have h:=hj50
 obtain ⟨x51,hj52,h⟩:=bnd h
 refine Jf (fun(x51:Bool) ρ' M' H'=>M46.le M'∧[(g0, .cells #[v0_0,(Iv r43),(GV r44)] 110 (0,0))]::[(g41, .cells #[(Iv r27),(Iv r34),Zs] 55 (0,0))]::[(g21, .cells #[(Iv 0),(Iv 0),Zs] 55 (0,0))]::F=H'∧ρ' 0=(pt g0 0)∧ρ' 2=(pt g21 0)∧ρ' 3=(Iv r22)∧ρ' 4=(pt g41 0)∧ρ' 5=(Iv r42)∧ρ' 27=(Bv x51)) x51 ?_ ?_
 have h:=hj52
 refine Cg (qM (pt g0 0) (hρ 0) ?_)
 obtain ⟨r53,hr54,h⟩:=bnd h
 have h0_0:=h0_0.mono hle47
 refine We (Cb co36 (f_wire_Reader_Err_ok (⟨a0.b,r43,r44⟩:T_wire_Reader) _ _ _ h0_0 r53 hr54) (args1 Z)) Z ?_
 rintro _ M55 _ hle56 ⟨_,⟨rfl,rfl⟩,rfl⟩
 refine WL.a1 (qu (Bv r53.isNil) (PO.errNil Tryz.underlying31 Z) (qm (Bv r53.isNil) ?_))
 rcases Bi h with⟨hb58,h⟩ |⟨hb58,h⟩
 refine qo 19 hb58 (pt g41 0) (Fa fo55_0 Z Z) (qo 19 hb58 (Iv r27) (Lb 1 pl3 Z Z Z) (qo 19 hb58 (Bv (decide (r27=0))) (PO.eql Z Z) (On 19 Z Z hb58 (qm (Bv (decide (r27=0))) ?_))))
 rcases Bi h with⟨hb59,h⟩ |⟨hb59,h⟩
 iterate 2 refine Of 23 Z Z hb59 Z ?_
 refine qo 19 hb58 (Bv true) (Pt Z hb59 Z) (qu (Bv true) (Pt Z hb58 Z) (Wz ?_))
 obtain rfl:=oi h
 exact Tj ⟨hle56,Z,(hρ 0),Z,Z,Z,Z,Z⟩
 refine On 23 Z Z hb59 (qm (Iv r42) (qo 23 hb59 (Bv (decide (r42=0))) (PO.eql Z Z) (qo 19 hb58 (Bv (decide (r42=0))) (Pf Z hb59 Z) (qu (Bv (decide (r42=0))) (Pt Z hb58 Z) (Wz ?_)))))
 obtain rfl:=oi h
 exact Tj ⟨hle56,Z,(hρ 0),Z,Z,Z,Z,Z⟩
 iterate 4 refine Of 19 Z Z hb58 Z ?_
 refine WL.offU 23 Z Z Z (WL.offU 23 Z Z Z (Of 19 Z Z hb58 Z (qu (Bv false) (Pf Z hb58 Z) (Wz ?_))))
 obtain rfl:=oi h
 exact Tj ⟨hle56,Z,(hρ 0),Z,Z,Z,Z,Z⟩
 rintro ρ52 M52 H52 ⟨hle52,rfl,hs52_0,hs52_2,hs52_3,hs52_4,hs52_5,hs52_27⟩
 refine Ch h hs52_27 (fun hb60 h=> ?_) (fun hb60 h=> ?_)
 refine Cg (qM (pt g0 0) hs52_0 ?_)
 obtain ⟨r61,hr62,h⟩:=bnd h
 have h0_0:=h0_0.mono (hle47.trans hle52)
 refine We (Cb co71 (f_wire_Reader_Refuse_ok (⟨a0.b,r43,r44⟩:T_wire_Reader) (⟨#[98,97,116,99,104]⟩:ByteArray) (2:Int) _ _ _ h0_0 r61 hr62) (args3 Z Z Z)) Z ?_
 rintro _ M63 _ hle64 ⟨_,⟨rfl,rfl⟩,rfl⟩
 refine WL.a1 (Wz ?_)
 obtain rfl:=oi h
 exact Tj ⟨(hle52.trans hle64),Z,hs52_0,hs52_2,hs52_3,hs52_4,hs52_5⟩
 refine Ck ?_
 obtain rfl:=oi h
 exact Tj ⟨hle52,Z,hs52_0,hs52_2,hs52_3,hs52_4,hs52_5⟩
 rintro ρ50 M50 H50 ⟨hle50,rfl,hs50_0,hs50_2,hs50_3,hs50_4,hs50_5⟩
 have L50:=L47.trans hle50
 obtain ⟨j68,hj68,h⟩:=bnd h
 refine Jf (fun(p_:(Int×GErr×(List T_api_Record))) ρ' M' H'=>match p_ with |(x65,x66,x67)=>∃ vx67 cx67,M50.le M'∧[(g0, .cells #[v0_0,(Iv x65),(GV x66)] 110 (0,0))]::[(g41, .cells #[(Iv r27),(Iv r34),vx67] 55 (0,0))]::[(g21, .cells #[(Iv 0),(Iv 0),Zs] 55 (0,0))]::cx67::F=H'∧ρ' 0=(pt g0 0)∧ρ' 2=(pt g21 0)∧ρ' 3=(Iv r22)∧ρ' 4=(pt g41 0)∧OwnS kd_api_Record M' vx67 x67 cx67) j68 ?_ ?_
 have h:=hj68
 refine Sr (qa (Iv 0) (Nt (Bk (WC.e0 (WC.f3 (WC.f3 (WC.f3 ?_)))))))
 obtain ⟨e69,he69,hK69⟩:=bnd h
 clear h
 refine WC.loop he69 (fun(p_:(Int×(List T_api_Record)×Int×GErr)) ρ' M' H'=>match p_ with |(x70,x71,x72,x73)=>∃ vx71 cx71,M50.le M'∧[(g0, .cells #[v0_0,(Iv x72),(GV x73)] 110 (0,0))]::[(g41, .cells #[(Iv r27),(Iv r34),vx71] 55 (0,0))]::[(g21, .cells #[(Iv 0),(Iv 0),Zs] 55 (0,0))]::cx71::F=H'∧ρ' 0=(pt g0 0)∧ρ' 2=(pt g21 0)∧ρ' 3=(Iv r22)∧ρ' 4=(pt g41 0)∧ρ' 5=(Iv r42)∧ρ' 6=(Iv x70)∧OwnS kd_api_Record M' vx71 x71 cx71) ?_ ?_
 exact⟨Zs,[],lr,Z,hs50_0,hs50_2,hs50_3,hs50_4,hs50_5,Z,(OwnS.nil _ _)⟩
 rintro ⟨x70,x71,x72,x73⟩ o69 ρ69 M69 H69 h ⟨vx71,cx71,hle69,rfl,hs69_0,hs69_2,hs69_3,hs69_4,hs69_5,hs69_6,hx71⟩
 unfold f_batch_Next_l0 at h
 refine Cs ?_
 obtain ⟨x77,hj78,h⟩:=bnd h
 refine Jf (fun(x77:Bool) ρ' M' H'=>M69.le M'∧[(g0, .cells #[v0_0,(Iv x72),(GV x73)] 110 (0,0))]::[(g41, .cells #[(Iv r27),(Iv r34),vx71] 55 (0,0))]::[(g21, .cells #[(Iv 0),(Iv 0),Zs] 55 (0,0))]::cx71::F=H'∧ρ' 0=(pt g0 0)∧ρ' 2=(pt g21 0)∧ρ' 3=(Iv r22)∧ρ' 4=(pt g41 0)∧ρ' 5=(Iv r42)∧ρ' 6=(Iv x70)∧ρ' 37=(Bv x77)) x77 ?_ ?_
 have h:=hj78
 refine Cg (qM (Iv x70) hs69_6 (qM (Iv r42) hs69_5 (qu (Bv (decide (x70<r42))) (PO.lss Z Z) (qm (Bv (decide (x70<r42))) ?_))))
 rcases Bi h with⟨hb79,h⟩ |⟨hb79,h⟩
 refine On 33 Z Z hb79 (qM (pt g0 0) hs69_0 (On 33 Z Z hb79 ?_))
 obtain ⟨r80,hr81,h⟩:=bnd h
 have h0_0:=h0_0.mono ((hle47.trans hle50).trans hle69)
 refine We (Cb co36 (f_wire_Reader_Err_ok (⟨a0.b,x72,x73⟩:T_wire_Reader) _ _ _ h0_0 r80 hr81) (args1 Z)) Z ?_
 rintro _ M82 _ hle83 ⟨_,⟨rfl,rfl⟩,rfl⟩
 refine WL.a1 (qo 33 hb79 (Bv r80.isNil) (PO.errNil Tryz.underlying31 Z) (qu (Bv r80.isNil) (Pt Z hb79 Z) (Wz ?_)))
 obtain rfl:=oi h
 exact Tj ⟨hle83,Z,hs69_0,hs69_2,hs69_3,hs69_4,hs69_5,hs69_6,Z⟩
 iterate 3 refine Of 33 Z Z hb79 Z ?_
 refine qu (Bv false) (Pf Z hb79 Z) (Wz ?_)
 obtain rfl:=oi h
 exact Tj ⟨lr,Z,hs69_0,hs69_2,hs69_3,hs69_4,hs69_5,hs69_6,Z⟩
 rintro ρ78 M78 H78 ⟨hle78,rfl,hs78_0,hs78_2,hs78_3,hs78_4,hs78_5,hs78_6,hs78_37⟩
 refine Ch h hs78_37 (fun hb85 h=> ?_) (fun hb85 h=> ?_)
 refine Ck (Tc (Cs (Bk (WC.draw [0,1,0,4,12,31,63,127] (.pure 0 (.pure 1 (.pure 2 (.alt 3 (.alt 4 (.alt 5 (.pure 6 (.alt 7 .done .none)) .none) .none) .none)))) mixed (by kernel_rfl) (qt (pt g41 2) Z (Fa fo55_2 hs78_4 Z) (qt vx71 Z (Lb 1 pl53 Z Z Z) (qt (pt g0 0) Z (Mv hs78_0) ?_)))))))
 obtain ⟨⟨r86,r87,r88⟩,hr89,h⟩:=bnd h
 have h0_0:=h0_0.mono (((hle47.trans hle50).trans hle69).trans hle78)
 have hE:=hE.mono ((L50.trans hle69).trans hle78)
 refine Ta Z (Cb co72 (f_record_Read_ok (⟨a0.b,x72,x73⟩:T_wire_Reader) _ _ _ h0_0 hE (r86,r87,r88) hr89) (args1 Z)) Z ?_ ?_
 rintro _ M90 _ hle91 ⟨_,⟨vq92_14,cq92_14,vq92_15,cq92_15,vq92_16,cq92_16,vq92_17,cq92_17,rfl,rfl,hq92_14,hq92_15,hq92_16,hq92_17⟩,rfl⟩
 refine⟨(Sk 1 Z (Ss Z (Lb 5 pl53 Z Z Z) Z (Ss Z (Fa fo55_2 hs78_4 Z) Z trivial))), ?_⟩
 refine WT.a5 (WT.f1 (WT.know (fun _ hs=>hq92_14.rs hs) (fun hf97=> ?_)))
 refine WT.freeze (fun hle96=> ?_)
 refine WT.f1 ?_
 have hq92_15:=hq92_15.mono hle96
 refine WT.know (fun _ hs=>hq92_15.rs hs) (fun hf102=> ?_)
 refine WT.freeze (fun hle101=> ?_)
 refine WT.f1 ?_
 have hq92_16:=hq92_16.mono (hle96.trans hle101)
 refine WT.know (fun _ hs=>hq92_16.rs hs) (fun hf107=> ?_)
 refine WT.freeze (fun hle106=> ?_)
 refine WT.f1 ?_
 have hq92_17:=hq92_17.mono ((hle96.trans hle101).trans hle106)
 refine WT.know (fun _ hs=>hq92_17.rs hs) (fun hf112=> ?_)
 refine WT.freeze (fun hle111=> ?_)
 refine Ta Z (EO.buildSliceL (cl:=(l58 r86 vq92_14 vq92_15 vq92_16 vq92_17)) Tryz.underlying53 iz58 Z (Pc (a58_ r86 vq92_14 vq92_15 vq92_16 vq92_17) Z Z Pz) Z) Z ?_ ?_
 rintro _ _ _ - ⟨rfl,g113,rfl,rfl⟩
 have hf97:=hf97.mono ((hle101.trans hle106).trans hle111)
 have hf102:=hf102.mono (hle106.trans hle111)
 have hf107:=hf107.mono hle111
 have h115:OwnS kd_api_Record ((((M90.add cq92_14).add cq92_15).add cq92_16).add cq92_17) (.slice (some ⟨g113,0,none⟩) 1 1) [r86] [(g113, .cells (l58 r86 vq92_14 vq92_15 vq92_16 vq92_17).toArray 58 (0,0))]:=OwnS.rows (css:=[(l58 r86 vq92_14 vq92_15 vq92_16 vq92_17)]) (Rows.cons (kd_api_Record_mk (x:=r86) hf97 hf102 hf107 hf112) Rows.nil) Z Z
 refine⟨(Sk 1 Z (Ss Z (Lb 2 pl53 Z Z Z) Z (Ss Z (Fa fo55_2 hs78_4 Z) Z trivial))), ?_⟩
 obtain ⟨hg119,h⟩:=grd_i h
 refine WT.f4 ?_
 have hx71:=hx71.mono (((((hle78.trans hle91).trans hle96).trans hle101).trans hle106).trans hle111)
 refine Ta Z (EO.append (dd:=kd_api_Record) (xs:=x71) (ys:=[r86]) Tryz.underlying53 Tryz.underlying53 in58 Z (appB (by decide) hg119) (by decide) Z Z hx71 (h115.src 1 Z)) Z ?_ ?_
 rintro v118 _ _ - ⟨rfl,c116,rfl,h117⟩
 refine⟨(Sl Z), ?_⟩
 refine qt (pt g41 2) Z (Fa fo55_2 hs78_4 Z) (WT.f3 (Ta Z (Es v118 [(Iv r27),(Iv r34),v118] h117.cells sz53 Z Z (Ow h117) Z Z Z) Z ?_ ?_))
 rintro _ _ _ - ⟨rfl,rfl⟩
 refine⟨(Sl Z), ?_⟩
 refine Ti (Bn (Tc (Cg (qM (Iv x70) hs78_6 (qu (Iv (IntKind.i64.wrap (x70+1))) (PO.add Z Z) (qa (Iv (IntKind.i64.wrap (x70+1))) (Wz (Qb (Dr (Qa (WQ.f3 ?_)))))))))))
 exact Qb (WQ.f3 (WQ.again (IntKind.i64.wrap (x70+1),x71++[r86],r87,r88) (oi h).symm ⟨v118,c116,((((((hle69.trans hle78).trans hle91).trans hle96).trans hle101).trans hle106).trans hle111),Z,hs78_0,hs78_2,hs78_3,hs78_4,hs78_5,Z,h117⟩))
 exact Tz
 exact Tz
 exact Tz
 exact Tz
 refine WC.exit (WQ.thenE (WQ.leaveE (x72,x73,x71) (oi h).symm (fun heq69=> ?_)))
 subst heq69
 have h:=hK69
 refine WQ.blockH ?_
 obtain rfl:=oi h
 refine Tj ?_
 have hx71:=hx71.mono hle78
 exact⟨vx71,cx71,(hle69.trans hle78),Z,hs78_0,hs78_2,hs78_3,hs78_4,hx71⟩
 obtain ⟨x65,x66,x67⟩:=j68
 rintro ρ68 M68 H68 ⟨vx67,cx67,hle68,rfl,hs68_0,hs68_2,hs68_3,hs68_4,hx67⟩
 obtain ⟨x121,hj122,h⟩:=bnd h
 refine Jf (fun(x121:GErr) ρ' M' H'=>M68.le M'∧[(g0, .cells #[v0_0,(Iv x65),(GV x121)] 110 (0,0))]::[(g41, .cells #[(Iv r27),(Iv r34),vx67] 55 (0,0))]::[(g21, .cells #[(Iv 0),(Iv 0),Zs] 55 (0,0))]::cx67::F=H'∧ρ' 0=(pt g0 0)∧ρ' 2=(pt g21 0)∧ρ' 4=(pt g41 0)) x121 ?_ ?_
 have h:=hj122
 refine Sr (qM (pt g0 0) hs68_0 ?_)
 obtain ⟨r123,hr124,h⟩:=bnd h
 have h0_0:=h0_0.mono ((hle47.trans hle50).trans hle68)
 refine We (Cb co70 (f_wire_Reader_At_ok (⟨a0.b,x65,x66⟩:T_wire_Reader) _ _ _ h0_0 r123 hr124) (args1 Z)) Z ?_
 rintro _ M125 _ hle126 ⟨_,⟨rfl,rfl⟩,rfl⟩
 refine WL.a1 (qM (Iv r22) hs68_3 (qu (Iv (IntKind.i64.wrap (r123 - r22))) (PO.sub Z Z) (qu (Bv (decide ((16384:Int)<(IntKind.i64.wrap (r123 - r22))))) (PO.gtr Z Z) (Nt (Ch h Z (fun hb128 h=> ?_) (fun hb128 h=> ?_))))))
 refine Cg (qM (pt g0 0) hs68_0 ?_)
 obtain ⟨r129,hr130,h⟩:=bnd h
 have h0_0:=h0_0.mono hle126
 refine We (Cb co71 (f_wire_Reader_Refuse_ok (⟨a0.b,x65,x66⟩:T_wire_Reader) (⟨#[98,97,116,99,104]⟩:ByteArray) (6:Int) _ _ _ h0_0 r129 hr130) (args3 Z Z Z)) Z ?_
 rintro _ M131 _ hle132 ⟨_,⟨rfl,rfl⟩,rfl⟩
 refine WL.a1 (Wz ?_)
 obtain rfl:=oi h
 exact Tj ⟨(hle126.trans hle132),Z,hs68_0,hs68_2,hs68_4⟩
 refine Ck ?_
 obtain rfl:=oi h
 exact Tj ⟨hle126,Z,hs68_0,hs68_2,hs68_4⟩
 rintro ρ122 M122 H122 ⟨hle122,rfl,hs122_0,hs122_2,hs122_4⟩
 refine Cs (Sr (qM (pt g0 0) hs122_0 ?_))
 obtain ⟨r133,hr134,h⟩:=bnd h
 have h0_0:=h0_0.mono (((hle47.trans hle50).trans hle68).trans hle122)
 refine We (Cb co36 (f_wire_Reader_Err_ok (⟨a0.b,x65,x121⟩:T_wire_Reader) _ _ _ h0_0 r133 hr134) (args1 Z)) Z ?_
 rintro _ M135 _ hle136 ⟨_,⟨rfl,rfl⟩,rfl⟩
 refine WL.a1 (qu (Bv (!r133.isNil)) (PO.errNotNil Tryz.underlying31 Z) (Nt (Ch h Z (fun hb138 h=> ?_) (fun hb138 h=> ?_))))
 refine Sr (qu (.agg #[(Iv 0),(Iv 0),Zs]) (Bl (cl:=[(Iv 0),(Iv 0),Zs]) ze55 fp55 Pz Z) (Wb (We (Sg (v:=(.agg #[(Iv 0),(Iv 0),Zs])) (vl:=[(Iv 0),(Iv 0),Zs]) (arr':=[(Iv 0),(Iv 0),Zs]) Z sz55 hs122_2 Z (onb Z) Z Z Z) Z ?_)))
 rintro _ _ _ - ⟨rfl,rfl⟩
 exact Nt (Cr (Tr (WQ.e0 (WQ.f3 (Dr (WQ.f3 (Dr (Qb (Qb (Rd h [[(g0, .cells #[v0_0,(Iv x65),(GV x121)] 110 (0,0))],[]] (fun _ hs=>hs.drop) (resultsL1 Z (Rc (cs:=[(Iv 0),(Iv 0),Zs]) 0 ag55 sz55 hs122_2 Z Z)) (((L50.trans hle68).trans hle122).trans hle136) ⟨Zs,[],Z,Z,(OwnS.nil _ _)⟩))))))))))
 refine Ck (Tc (Sr (qu (.agg #[(Iv r27),(Iv r34),vx67]) (La (cs:=[(Iv r27),(Iv r34),vx67]) 1 ag55 sz55 hs122_4 Z Z) (Wb ?_))))
 have hx67:=hx67.mono (hle122.trans hle136)
 refine We (Sg (v:=(.agg #[(Iv r27),(Iv r34),vx67])) (vl:=[(Iv r27),(Iv r34),vx67]) (arr':=[(Iv r27),(Iv r34),vx67]) Z sz55 hs122_2 Z (onesOf (Oc Z (Oc Z (Oc (Ow hx67) Oz)))) Z Z Z) Z ?_
 rintro _ _ _ - ⟨rfl,rfl⟩
 exact Nt (Cr (Qb (Dr (Rd h [[(g0, .cells #[v0_0,(Iv x65),(GV x121)] 110 (0,0))],cx67] (fun _ hs=>hs.drop) (resultsL1 Z (Rc (cs:=[(Iv r27),(Iv r34),vx67]) 0 ag55 sz55 hs122_2 Z Z)) (((L50.trans hle68).trans hle122).trans hle136) ⟨vx67,cx67,Z,Z,hx67⟩))))

end Go.Proofs.YtkflneabcannnaaGreatDoor.G
