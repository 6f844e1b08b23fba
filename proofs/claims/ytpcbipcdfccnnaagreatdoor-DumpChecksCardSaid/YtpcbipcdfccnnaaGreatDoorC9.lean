/- Go functions: what they come to, and that they do. Printed by a program of the session (gen). -/
import Derived.Test.YtpcbipcdfccnnaaGreatDoorCF
import Derived.Test.YtpcbipcdfccnnaaGreatDoorC0
import Derived.Test.YtpcbipcdfccnnaaGreatDoorC5
import Derived.Test.YtpcbipcdfccnnaaGreatDoorC7
import Derived.Test.YtpcbipcdfccnnaaGreatDoorC8
import Derived.Test.YtpcbipcdfccnnaaGreatDoorKShar2
import Derived.Test.YtpcbipcdfccnnaaGreatDoorKConv
import Derived.Test.YtpcbipcdfccnnaaGreatDoorKMap
import Derived.Test.YtpcbipcdfccnnaaGreatDoorKTight2
set_option linter.unusedVariables false
set_option linter.unusedSimpArgs false
set_option maxHeartbeats 8000000
set_option maxRecDepth 100000
namespace Go.Proofs.YtpcbipcdfccnnaaGreatDoor.G
open Go Go.KK
open PO EO IntKind Sum Tryz

noncomputable def f_errors_As_fault (a0:GErr) (a1:T_api_Fault):Option (Bool×ByteArray×Int×GErr):=
 (if a0.isNil=true then(some (false,a1.Op,a1.At,a1.Err))else((f_errors_as_fault a0 a1).bind fun(a,b,c,d)=>(some (a,b,c,d))))
def f_errors_As_fault_post (a0:GErr) (a1:T_api_Fault) (a:Nat):(Bool×ByteArray×Int×GErr)→Value→IM→HL→Prop:=
 fun(p_:(Bool×ByteArray×Int×GErr)) (v:Value) (M':IM) (H':HL)=>match p_ with |(b,c,d,e)=>(.bool b)=v∧H'=[[(a, .cells #[(.string c),(.int .i64 d),(GV e)] 114 (0,0))]]
theorem f_errors_As_fault_ok (a0:GErr) (a1:T_api_Fault) (M:IM) (c:Nat) (hE:Env M) (res:(Bool×ByteArray×Int×GErr)) (h:f_errors_As_fault a0 a1=some res):
 Tri prog 68 #[(GV a0),(.iface 116 (pt c 0))] M [[(c, .cells (l114 a1).toArray 114 (0,0))]] (f_errors_As_fault_post a0 a1 c res):=by
 unfold f_errors_As_fault at h
 refine Te func68 Z Z ?_
 intro F ρ hρ
 refine Sr (qa (Bv false) (Nt (Cs (Sr (qM (GV a0) (hρ 0) (qu (Bv a0.isNil) (errNil underlying32 Z) (Nt (Ch h Z (fun e h=> ?_) (fun e h=> ?_)))))))))
 exact Sr (qa (Bv false) (Nt (Cr (Tr (Rf h [[(c, .cells (l114 a1).toArray 114 (0,0))]] Z (Rs Z Z) lr ⟨Z,Z⟩)))))
 refine Ck (Tc (Cs (Sr (qM (.iface 116 (pt c 0)) (hρ 1) (qu (Bv false) (ifcNil underlying20 Z) (Nt (WC.condF (b:=false) Z Z (Ck (Tc (Sr (qM (.iface 116 (pt c 0)) (hρ 1) ?_)))))))))))
 refine We (valueOf xt101 (args1 (show ev _ _=(.iface 116 (pt c 0)) from Z)) (vo116 ⟨c,0,none⟩)) Z ?_
 rintro _ _ _ - ⟨rfl,a,rfl,rfl⟩
 refine We (Al ze154 Z) Z ?_
 rintro _ _ _ - ⟨rfl,l,rfl,rfl⟩
 refine We (Sg (v:=(.agg #[(pt 1 116),(pt a 0),(Uv 150)])) (vl:=[(pt 1 116),(pt a 0),(Uv 150)]) (arr':=[(pt 1 116),(pt a 0),(Uv 150)]) Z sz154 Z Z (onb Z) Z Z Z) Z ?_
 rintro _ _ _ - ⟨rfl,rfl⟩
 refine Ns (qu (.agg #[(pt 1 116),(pt a 0),(Uv 150)]) (La (cs:=[(pt 1 116),(pt a 0),(Uv 150)]) 0 ag154 sz154 Z Z Z) (We (extP xt102 (args1 (show ev _ _=(.agg #[(pt 1 116),(pt a 0),(Uv 150)]) from Z)) (vt116_150 _)) Z ?_))
 rintro _ _ _ - ⟨rfl,rfl,rfl⟩
 refine qa (.iface 193 (.agg #[.pointer (some ⟨1,116,none⟩)])) (Nt (Cs (Sr (qm (.iface 193 (.agg #[.pointer (some ⟨1,116,none⟩)])) (We (invE (show ev _ _=(.iface 193 (.agg #[.pointer (some ⟨1,116,none⟩)])) from Z) (mm_Kind (pt 1 116)) xt169 inv0 mr_Kind_116) Z ?_)))))
 rintro _ _ _ - ⟨rfl,rfl,rfl⟩
 refine qu (Bv false) (neqR Z Z (by decide)) (qm (Bv false) (qo 20 Z (.agg #[(pt 1 116),(pt a 0),(Uv 150)]) (La (cs:=[(pt 1 116),(pt a 0),(Uv 150)]) 0 ag154 sz154 Z Z Z) (On 20 Z Z Z (We (isNil 1 xt103 pp116_150 Z pl116 (args1 (show ev _ _=(.agg #[(pt 1 116),(pt a 0),(Uv 150)]) from Z)) Z) Z ?_))))
 rintro _ _ _ - ⟨rfl,rfl,rfl⟩
 refine qu (Bv false) (Pf Z Z Z) (Nt (WC.condF (b:=false) Z Z (Ck (Tc (Sr (qm (.iface 193 (.agg #[.pointer (some ⟨1,116,none⟩)])) (We (invE (show ev _ _=(.iface 193 (.agg #[.pointer (some ⟨1,116,none⟩)])) from Z) (mm_Elem (pt 1 116)) xt182 inv0 mr_Elem_116) Z ?_)))))))
 rintro _ _ _ - ⟨rfl,rfl,rfl⟩
 refine qa (.iface 193 (.agg #[.pointer (some ⟨1,114,none⟩)])) (Nt (Cs (Sr (qm (.iface 193 (.agg #[.pointer (some ⟨1,114,none⟩)])) (We (invE (show ev _ _=(.iface 193 (.agg #[.pointer (some ⟨1,114,none⟩)])) from Z) (mm_Kind (pt 1 114)) xt169 inv0 mr_Kind_114) Z ?_)))))
 rintro _ _ _ - ⟨rfl,rfl,rfl⟩
 refine qu (Bv true) (neqR Z Z (by decide)) (qm (Bv true) (On 30 Z Z Z (qm (.iface 193 (.agg #[.pointer (some ⟨1,114,none⟩)])) (qo 30 Z (.iface 193 (.agg #[.pointer (some ⟨1,32,none⟩)])) (loadG pl148 hE) (On 30 Z Z Z (We (invE (show ev _ _=(.iface 193 (.agg #[.pointer (some ⟨1,114,none⟩)])) from Z) (mm_Implements (pt 1 114)) xt183 (inv1 Z) mr_Implements_114_32) Z ?_))))))
 rintro _ _ _ - ⟨rfl,rfl,rfl⟩
 refine qo 30 Z (Bv (!true)) (PO.not Z) (qu (Bv (!true)) (Pt Z Z Z) (Nt (WC.condF (b:= !true) Z Z (Ck (Tc (Sr (qM (GV a0) (hρ 0) (qM (.iface 116 (pt c 0)) (hρ 1) (qu (.agg #[(pt 1 116),(pt a 0),(Uv 150)]) (La (cs:=[(pt 1 116),(pt a 0),(Uv 150)]) 0 ag154 sz154 Z Z Z) (qm (.iface 193 (.agg #[.pointer (some ⟨1,114,none⟩)])) ?_))))))))))
 obtain ⟨⟨f,g,i,j⟩,k,h⟩:=bnd h
 refine WL.f1 (Wb (We (EO.call2 co104 (f_errors_as_fault_ok a0 a1 _ _ _ (f,g,i,j) k) (args4 Z Z Z Z)) Z ?_))
 rintro _ m _ d ⟨_,⟨rfl,rfl⟩,rfl⟩
 exact WL.a2 (qa (Bv f) (Nt (Cr (Qa (Dr (Qa (Dr (Rf h [[(c, .cells #[(Sv g),(Iv i),(GV j)] 114 (0,0))]] Z (Rs Z Z) d ⟨Z,Z⟩))))))))
noncomputable def f_fault_Where (a0:GErr):Option (Int×Bool):=
 ((f_errors_As_fault a0 (⟨(⟨#[]⟩:ByteArray),(0:Int),GErr.nil⟩:T_api_Fault)).bind fun(a,c,b,d)=>(if(!a)=true then(some ((0:Int),false))else(some (b,true))))
def f_fault_Where_post (a0:GErr):(Int×Bool)→Value→IM→HL→Prop:=
 fun(p_:(Int×Bool)) (v:Value) (M':IM) (H':HL)=>match p_ with |(a,b)=>(.tuple #[(.int .i64 a),(.bool b)])=v∧H'=[]
theorem f_fault_Where_ok (a0:GErr) (M:IM) (hE:Env M) (res:(Int×Bool)) (h:f_fault_Where a0=some res):
 Tri prog 21 #[(GV a0)] M [] (f_fault_Where_post a0 res):=by
 unfold f_fault_Where at h
 refine Te func21 Z Z ?_
 intro F ρ hρ
 refine Sr (qa (Iv 0) (qa (Bv false) (Ns (We (Al ze114 Z) Z ?_))))
 rintro _ _ _ - ⟨rfl,c,rfl,rfl⟩
 refine Nt (Cs (Sr (qM (GV a0) (hρ 0) (qu (.iface 116 (pt c 0)) (makeInterface cc116 Z) ?_))))
 obtain ⟨⟨d,g,b,i⟩,e,h⟩:=bnd h
 refine We (Cb co68 (f_errors_As_fault_ok a0 (⟨(⟨#[]⟩:ByteArray),(0:Int),GErr.nil⟩:T_api_Fault) _ _ hE (d,g,b,i) e) (args2 Z Z)) Z ?_
 rintro _ j _ a ⟨_,⟨rfl,rfl⟩,rfl⟩
 refine WL.a1 (qu (Bv (!d)) (PO.not Z) (Nt (Ch h Z (fun f h=> ?_) (fun f h=> ?_))))
 exact Sr (qa (Iv 0) (qa (Bv false) (Nt (Cr (Tr (Dr (Rf h [] Z (results2 Z Z Z) a ⟨Z,Z⟩)))))))
 exact Ck (Tc (Sr (qu (pt c 1) (Fa fo114_1 Z Z) (qu (Iv b) (Lb 0 pl3 Z Z Z) (qa (Iv b) (qa (Bv true) (Nt (Cr (Dr (Rf h [] Z (results2 Z Z Z) a ⟨Z,Z⟩))))))))))
noncomputable def f_errors_as_code_l0 (a1:Int) (s_:GErr):Option (GErr⊕(Bool×Int)):=
 match s_ with
 |b=>
 (match b with | .nil=>none | .code c=>(some (inr (true,c))) | .fault d a28 e=>((f_api_Fault_Unwrap (⟨d,a28,e⟩:T_api_Fault)).bind fun a=>(if a.isNil=true then(some (inr (false,a1)))else(some (inl a)))) | .other f=>(some (inr (false,a1))))
noncomputable def f_errors_as_code (a0:GErr) (a1:Int):Option (Bool×Int):=
 ((iter (f_errors_as_code_l0 a1) a0).bind (fun(a,b)=>(some (a,b))))
def f_errors_as_code_post (a0:GErr) (a1:Int) (a b:Nat):(Bool×Int)→Value→IM→HL→Prop:=
 fun(p_:(Bool×Int)) (v:Value) (M':IM) (H':HL)=>match p_ with |(c,d)=>(.bool c)=v∧H'=[[(a, .cells #[(.int .i64 d)] 34 (0,0))],[(b, .cells #[(.pointer (some ⟨a,0,none⟩))] 117 (0,0))]]
theorem f_errors_as_code_ok (a0:GErr) (a1:Int) (M:IM) (k m:Nat) (res:(Bool×Int)) (h:f_errors_as_code a0 a1=some res):
 Tri prog 104 #[(GV a0),(.iface 117 (pt k 0)),(.agg #[(pt 1 117),(pt m 0),(Uv 150)]),(.iface 193 (.agg #[.pointer (some ⟨1,34,none⟩)]))] M [[(k, .cells #[(Iv a1)] 34 (0,0))],[(m, .cells #[(pt k 0)] 117 (0,0))]] (f_errors_as_code_post a0 a1 k m res):=by
 unfold f_errors_as_code at h
 refine Te func104 Z Z ?_
 intro F ρ hρ
 refine Sr (We (box (cs:=#[(pt 1 117),(pt m 0),(Uv 150)]) (congrArg Value.cells (asE (.agg #[(pt 1 117),(pt m 0),(Uv 150)]) (hρ 2)))) Z ?_)
 rintro _ _ _ - ⟨rfl,u,rfl,rfl⟩
 refine qa (Bv false) (Nt (Bk ?_))
 obtain ⟨A,w,n⟩:=bnd h
 clear h
 refine WC.loop w (fun(s:GErr) ρ' M' H'=>M.le M'∧[(u, .cells #[(pt 1 117),(pt m 0),(Uv 150)] 154 (0,0))]::[(k, .cells #[(Iv a1)] 34 (0,0))]::[(m, .cells #[(pt k 0)] 117 (0,0))]::F=H'∧ρ' 0=(GV s)∧ρ' 1=(.iface 117 (pt k 0))∧ρ' 3=(.iface 193 (.agg #[.pointer (some ⟨1,34,none⟩)]))∧ρ' 6=(pt u 0)) ?_ ?_
 exact⟨lr,Z,(hρ 0),(hρ 1),(hρ 3),Z⟩
 rintro s B C D E h ⟨g,rfl,a,t,c,l⟩
 unfold f_errors_as_code_l0 at h
 refine Bk (Cs (Sr (qM (GV s) a ?_)))
 rcases s with _ |i |⟨d,a28,e⟩ |j
 refine We (extP xt99 (args1 (show ev _ _= .nilIface from Z)) tyNil) Z ?_
 rintro _ _ _ - ⟨rfl,rfl,rfl⟩
 exact qM (.iface 193 (.agg #[.pointer (some ⟨1,34,none⟩)])) c (nones h)
 refine We (extP xt99 (args1 (show ev _ _=(.iface 34 (Iv i)) from Z)) (ty34 _)) Z ?_
 rintro _ _ _ - ⟨rfl,rfl,rfl⟩
 refine qM (.iface 193 (.agg #[.pointer (some ⟨1,34,none⟩)])) c (We (invE (show ev _ _=(.iface 193 (.agg #[.pointer (some ⟨1,34,none⟩)])) from Z) (mm_AssignableTo (pt 1 34)) xt180 (inv1 Z) mr_AssignableTo_34_34) Z ?_)
 rintro _ _ _ - ⟨rfl,rfl,rfl⟩
 refine Nt (WC.condT (b:=true) Z Z (Sr (qu (.agg #[(pt 1 117),(pt m 0),(Uv 150)]) (La (cs:=[(pt 1 117),(pt m 0),(Uv 150)]) 0 ag154 sz154 l Z Z) (We (rvElem (r:=fun p=> .agg #[(pt 1 34), .pointer (some p), .int .u64 386]) 2 xt137 pp117_150 Z pl117 el117 mk34 (args1 (show ev _ _=(.agg #[(pt 1 117),(pt m 0),(Uv 150)]) from Z)) Z) Z ?_))))
 rintro _ _ _ - ⟨rfl,rfl,rfl⟩
 refine qM (GV (GErr.code i)) a (We (valueOf xt101 (args1 (show ev _ _=(.iface 34 (Iv i)) from Z)) (vo34 i)) Z ?_)
 rintro _ _ _ - ⟨rfl,z,rfl,rfl⟩
 refine Wb (We (rvSet (arr:=[(Iv a1)]) (vl:=[(Iv i)]) (v:=(Iv i)) xt138 pp34_386 pp34_130 Z da34 (args2 (show ev _ _=(.agg #[(pt 1 34),(pt k 0),(Uv 386)]) from Z) (show ev _ _=(.agg #[(pt 1 34),(pt z 0),(Uv 130)]) from Z)) (fun _ hs=>run_loadPlain pl34 (hs.cellC 1 Z (chunkCell_lit.trans Z))) Z sz34 Z (onb Z)) Z ?_)
 rintro _ _ _ - ⟨rfl,rfl,rfl⟩
 refine Ns (qa (Bv true) (Nt (Cr (Tr (Br (WQ.leaveR (true,i) (oi h).symm (fun f=> ?_)))))))
 subst f
 have h:=n
 exact Br (Qa (Dr (Qa (Dr (Rf h [[(k, .cells #[(Iv i)] 34 (0,0))],[(m, .cells #[(pt k 0)] 117 (0,0))]] Z (Rs Z Z) g ⟨Z,Z⟩)))))
 refine We (extP xt99 (args1 (show ev _ _=(.iface 114 (.agg #[.string d, .int .i64 a28,GV e])) from Z)) (ty114 _)) Z ?_
 rintro _ _ _ - ⟨rfl,rfl,rfl⟩
 refine qM (.iface 193 (.agg #[.pointer (some ⟨1,34,none⟩)])) c (We (invE (show ev _ _=(.iface 193 (.agg #[.pointer (some ⟨1,114,none⟩)])) from Z) (mm_AssignableTo (pt 1 114)) xt180 (inv1 Z) mr_AssignableTo_114_34) Z ?_)
 rintro _ _ _ - ⟨rfl,rfl,rfl⟩
 refine Nt (WC.condF (b:=false) Z Z (Ck (Tc (Cs (Sr (qM (GV (GErr.fault d a28 e)) a (qu (.tuple #[.nilIface,(Bv false)]) (asserts (show ev _ _=(.iface 114 (.agg #[.string d, .int .i64 a28,GV e])) from Z) (la114_204 _ _)) (qm (.tuple #[.nilIface,(Bv false)]) (qu .nilIface (Xt Z Z) (qu (Bv false) (Xt Z Z) (qa .nilIface ?_)))))))))))
 refine qa (Bv false) (Ns (qm (Bv false) (qm (Bv false) ?_)))
 iterate 3 refine Of 31 Z Z Z Z ?_
 refine qu (Bv false) (Pf Z Z Z) (Nt (WC.condF (b:=false) Z Z (Ck (Tc (Sr (qM (GV (GErr.fault d a28 e)) a (Nt (Bk (Sr (qu (.tuple #[(GV (GErr.fault d a28 e)),(Bv true)]) (asserts (show ev _ _=(.iface 114 (.agg #[.string d, .int .i64 a28,GV e])) from Z) (ha114_198 _ _)) (qu (Bv true) (Xt Z Z) ?_)))))))))))
 refine qu (GV (GErr.fault d a28 e)) (Xt Z Z) (Nt (WC.condT (b:=true) Z Z (Sr (qa (GV (GErr.fault d a28 e)) (Ns (qm (GV (GErr.fault d a28 e)) ?_))))))
 obtain ⟨o,x,h⟩:=bnd h
 refine We (invT (show ev _ _=(.iface 114 (.agg #[.string d, .int .i64 a28,GV e])) from Z) (me114_Unwrap _) co175 inv0 (f_api_Fault_Unwrap_ok (⟨d,a28,e⟩:T_api_Fault) _ o x)) Z ?_
 rintro _ G _ q ⟨_,⟨rfl,rfl⟩,rfl⟩
 refine WL.a0 (qa (GV o) (Ns (qm (GV o) (qu (Bv o.isNil) (errNil underlying32 Z) (Nt (Ch h Z (fun y h=> ?_) (fun y h=> ?_)))))))
 refine Sr (qa (Bv false) (Nt (Cr (Br (Br (WQ.leaveR (false,a1) (oi h).symm (fun f=> ?_)))))))
 subst f
 have h:=n
 exact Br (Dr (Rf h [[(k, .cells #[(Iv a1)] 34 (0,0))],[(m, .cells #[(pt k 0)] 117 (0,0))]] Z (Rs Z Z) (g.trans q) ⟨Z,Z⟩))
 exact Ck (Bn (Bn (WQ.again o (oi h).symm ⟨(g.trans q),Z,Z,t,c,l⟩)))
 refine We (extP xt99 (args1 (show ev _ _=(.iface 0 (.pointer (some j))) from Z)) (ty0 _)) Z ?_
 rintro _ _ _ - ⟨rfl,rfl,rfl⟩
 refine qM (.iface 193 (.agg #[.pointer (some ⟨1,34,none⟩)])) c (We (invE (show ev _ _=(.iface 193 (.agg #[.pointer (some ⟨1,0,none⟩)])) from Z) (mm_AssignableTo (pt 1 0)) xt180 (inv1 Z) mr_AssignableTo_0_34) Z ?_)
 rintro _ _ _ - ⟨rfl,rfl,rfl⟩
 refine Nt (WC.condF (b:=false) Z Z (Ck (Tc (Cs (Sr (qM (GV (GErr.other j)) a (qu (.tuple #[.nilIface,(Bv false)]) (asserts (show ev _ _=(.iface 0 (.pointer (some j))) from Z) (la0_204 _ _)) (qm (.tuple #[.nilIface,(Bv false)]) (qu .nilIface (Xt Z Z) (qu (Bv false) (Xt Z Z) (qa .nilIface ?_)))))))))))
 refine qa (Bv false) (Ns (qm (Bv false) (qm (Bv false) ?_)))
 iterate 3 refine Of 31 Z Z Z Z ?_
 refine qu (Bv false) (Pf Z Z Z) (Nt (WC.condF (b:=false) Z Z (Ck (Tc (Sr (qM (GV (GErr.other j)) a (Nt (Bk (Sr (qu (.tuple #[.nilIface,(Bv false)]) (asserts (show ev _ _=(.iface 0 (.pointer (some j))) from Z) (la0_198 _ _)) (qu (Bv false) (Xt Z Z) ?_)))))))))))
 refine qu .nilIface (Xt Z Z) (Nt (WC.condF (b:=false) Z Z (Sr (qu (.tuple #[.nilIface,(Bv false)]) (asserts (show ev _ _=(.iface 0 (.pointer (some j))) from Z) (la0_199 _ _)) (qu (Bv false) (Xt Z Z) (qu .nilIface (Xt Z Z) (Nt (WC.condF (b:=false) Z Z (Sr (qa (GV (GErr.other j)) (Ns ?_)))))))))))
 refine qa (Bv false) (Nt (Cr (Br (Br (WQ.leaveR (false,a1) (oi h).symm (fun f=> ?_))))))
 subst f
 have h:=n
 exact Br (Dr (Rf h [[(k, .cells #[(Iv a1)] 34 (0,0))],[(m, .cells #[(pt k 0)] 117 (0,0))]] Z (Rs Z Z) g ⟨Z,Z⟩))
noncomputable def f_errors_As_code (a0:GErr) (a1:Int):Option (Bool×Int):=
 (if a0.isNil=true then(some (false,a1))else((f_errors_as_code a0 a1).bind fun(a,b)=>(some (a,b))))
def f_errors_As_code_post (a0:GErr) (a1:Int) (a:Nat):(Bool×Int)→Value→IM→HL→Prop:=
 fun(p_:(Bool×Int)) (v:Value) (M':IM) (H':HL)=>match p_ with |(b,c)=>(.bool b)=v∧H'=[[(a, .cells #[(.int .i64 c)] 34 (0,0))]]
theorem f_errors_As_code_ok (a0:GErr) (a1:Int) (M:IM) (c:Nat) (hE:Env M) (res:(Bool×Int)) (h:f_errors_As_code a0 a1=some res):
 Tri prog 68 #[(GV a0),(.iface 117 (pt c 0))] M [[(c, .cells #[(Iv a1)] 34 (0,0))]] (f_errors_As_code_post a0 a1 c res):=by
 unfold f_errors_As_code at h
 refine Te func68 Z Z ?_
 intro F ρ hρ
 refine Sr (qa (Bv false) (Nt (Cs (Sr (qM (GV a0) (hρ 0) (qu (Bv a0.isNil) (errNil underlying32 Z) (Nt (Ch h Z (fun e h=> ?_) (fun e h=> ?_)))))))))
 exact Sr (qa (Bv false) (Nt (Cr (Tr (Rf h [[(c, .cells #[(Iv a1)] 34 (0,0))]] Z (Rs Z Z) lr ⟨Z,Z⟩)))))
 refine Ck (Tc (Cs (Sr (qM (.iface 117 (pt c 0)) (hρ 1) (qu (Bv false) (ifcNil underlying20 Z) (Nt (WC.condF (b:=false) Z Z (Ck (Tc (Sr (qM (.iface 117 (pt c 0)) (hρ 1) ?_)))))))))))
 refine We (valueOf xt101 (args1 (show ev _ _=(.iface 117 (pt c 0)) from Z)) (vo117 ⟨c,0,none⟩)) Z ?_
 rintro _ _ _ - ⟨rfl,a,rfl,rfl⟩
 refine We (Al ze154 Z) Z ?_
 rintro _ _ _ - ⟨rfl,j,rfl,rfl⟩
 refine We (Sg (v:=(.agg #[(pt 1 117),(pt a 0),(Uv 150)])) (vl:=[(pt 1 117),(pt a 0),(Uv 150)]) (arr':=[(pt 1 117),(pt a 0),(Uv 150)]) Z sz154 Z Z (onb Z) Z Z Z) Z ?_
 rintro _ _ _ - ⟨rfl,rfl⟩
 refine Ns (qu (.agg #[(pt 1 117),(pt a 0),(Uv 150)]) (La (cs:=[(pt 1 117),(pt a 0),(Uv 150)]) 0 ag154 sz154 Z Z Z) (We (extP xt102 (args1 (show ev _ _=(.agg #[(pt 1 117),(pt a 0),(Uv 150)]) from Z)) (vt117_150 _)) Z ?_))
 rintro _ _ _ - ⟨rfl,rfl,rfl⟩
 refine qa (.iface 193 (.agg #[.pointer (some ⟨1,117,none⟩)])) (Nt (Cs (Sr (qm (.iface 193 (.agg #[.pointer (some ⟨1,117,none⟩)])) (We (invE (show ev _ _=(.iface 193 (.agg #[.pointer (some ⟨1,117,none⟩)])) from Z) (mm_Kind (pt 1 117)) xt169 inv0 mr_Kind_117) Z ?_)))))
 rintro _ _ _ - ⟨rfl,rfl,rfl⟩
 refine qu (Bv false) (neqR Z Z (by decide)) (qm (Bv false) (qo 20 Z (.agg #[(pt 1 117),(pt a 0),(Uv 150)]) (La (cs:=[(pt 1 117),(pt a 0),(Uv 150)]) 0 ag154 sz154 Z Z Z) (On 20 Z Z Z (We (isNil 1 xt103 pp117_150 Z pl117 (args1 (show ev _ _=(.agg #[(pt 1 117),(pt a 0),(Uv 150)]) from Z)) Z) Z ?_))))
 rintro _ _ _ - ⟨rfl,rfl,rfl⟩
 refine qu (Bv false) (Pf Z Z Z) (Nt (WC.condF (b:=false) Z Z (Ck (Tc (Sr (qm (.iface 193 (.agg #[.pointer (some ⟨1,117,none⟩)])) (We (invE (show ev _ _=(.iface 193 (.agg #[.pointer (some ⟨1,117,none⟩)])) from Z) (mm_Elem (pt 1 117)) xt182 inv0 mr_Elem_117) Z ?_)))))))
 rintro _ _ _ - ⟨rfl,rfl,rfl⟩
 refine qa (.iface 193 (.agg #[.pointer (some ⟨1,34,none⟩)])) (Nt (Cs (Sr (qm (.iface 193 (.agg #[.pointer (some ⟨1,34,none⟩)])) (We (invE (show ev _ _=(.iface 193 (.agg #[.pointer (some ⟨1,34,none⟩)])) from Z) (mm_Kind (pt 1 34)) xt169 inv0 mr_Kind_34) Z ?_)))))
 rintro _ _ _ - ⟨rfl,rfl,rfl⟩
 refine qu (Bv true) (neqR Z Z (by decide)) (qm (Bv true) (On 30 Z Z Z (qm (.iface 193 (.agg #[.pointer (some ⟨1,34,none⟩)])) (qo 30 Z (.iface 193 (.agg #[.pointer (some ⟨1,32,none⟩)])) (loadG pl148 hE) (On 30 Z Z Z (We (invE (show ev _ _=(.iface 193 (.agg #[.pointer (some ⟨1,34,none⟩)])) from Z) (mm_Implements (pt 1 34)) xt183 (inv1 Z) mr_Implements_34_32) Z ?_))))))
 rintro _ _ _ - ⟨rfl,rfl,rfl⟩
 refine qo 30 Z (Bv (!true)) (PO.not Z) (qu (Bv (!true)) (Pt Z Z Z) (Nt (WC.condF (b:= !true) Z Z (Ck (Tc (Sr (qM (GV a0) (hρ 0) (qM (.iface 117 (pt c 0)) (hρ 1) (qu (.agg #[(pt 1 117),(pt a 0),(Uv 150)]) (La (cs:=[(pt 1 117),(pt a 0),(Uv 150)]) 0 ag154 sz154 Z Z Z) (qm (.iface 193 (.agg #[.pointer (some ⟨1,34,none⟩)])) ?_))))))))))
 obtain ⟨⟨f,g⟩,i,h⟩:=bnd h
 refine WL.f1 (Wb (We (EO.call2 co104 (f_errors_as_code_ok a0 a1 _ _ _ (f,g) i) (args4 Z Z Z Z)) Z ?_))
 rintro _ k _ d ⟨_,⟨rfl,rfl⟩,rfl⟩
 exact WL.a2 (qa (Bv f) (Nt (Cr (Qa (Dr (Qa (Dr (Rf h [[(c, .cells #[(Iv g)] 34 (0,0))]] Z (Rs Z Z) d ⟨Z,Z⟩))))))))
noncomputable def f_fault_Of (a0:GErr):Option Int:=
 (if a0.isNil=true then(some (0:Int))else((f_errors_As_code a0 (0:Int)).bind fun(a,b)=>(if a=true then(some b)else(some (21:Int)))))
def f_fault_Of_post (a0:GErr):Int→Value→IM→HL→Prop:=
 fun(a:Int) (v:Value) (M':IM) (H':HL)=>(.int .i64 a)=v∧H'=[]
theorem f_fault_Of_ok (a0:GErr) (M:IM) (hE:Env M) (res:Int) (h:f_fault_Of a0=some res):
 Tri prog 22 #[(GV a0)] M [] (f_fault_Of_post a0 res):=by
 unfold f_fault_Of at h
 refine Te func22 Z Z ?_
 intro F ρ hρ
 refine Sr (qa (Iv 0) (Nt (Cs (Sr (qM (GV a0) (hρ 0) (qu (Bv a0.isNil) (errNil underlying32 Z) (Nt (Ch h Z (fun c h=> ?_) (fun c h=> ?_)))))))))
 exact Sr (qa (Iv 0) (Nt (Cr (Tr (Rf h [] Z (Rs Z Z) lr ⟨Z,Z⟩)))))
 refine Ck (Tc (Sr (We (Al ze34 Z) Z ?_)))
 rintro _ _ _ - ⟨rfl,f,rfl,rfl⟩
 refine Nt (Cs (Sr (qM (GV a0) (hρ 0) (qu (.iface 117 (pt f 0)) (makeInterface cc117 Z) ?_))))
 obtain ⟨⟨g,b⟩,d,h⟩:=bnd h
 refine We (Cb co68 (f_errors_As_code_ok a0 (0:Int) _ _ hE (g,b) d) (args2 Z Z)) Z ?_
 rintro _ i _ a ⟨_,⟨rfl,rfl⟩,rfl⟩
 refine WL.a1 (Nt (Ch h Z (fun e h=> ?_) (fun e h=> ?_)))
 exact Sr (qu (Iv b) (Lb 0 pl34 Z Z Z) (qa (Iv b) (Nt (Cr (Tr (Dr (Rf h [] Z (Rs Z Z) a ⟨Z,Z⟩)))))))
 exact Ck (Tc (Sr (qa (Iv 21) (Nt (Cr (Dr (Rf h [] Z (Rs Z Z) a ⟨Z,Z⟩)))))))
noncomputable def f_fault_Path_l0 (s_:(GErr×(List ByteArray))):Option ((GErr×(List ByteArray))⊕(List ByteArray)):=
 match s_ with
 |(b,a)=>
 (if(!b.isNil)=true then((f_errors_As_fault b (⟨(⟨#[]⟩:ByteArray),(0:Int),GErr.nil⟩:T_api_Fault)).bind fun(d,c,f,e)=>(if(!d)=true then(some (inr a))else(grd (a.length+[c].length≤274877906944) (some (inl (e,a++[c]))))))else(some (inr a)))
noncomputable def f_fault_Path (a0:GErr):Option (List ByteArray):=
 ((((iter (f_fault_Path_l0) (a0,[])).bind (fun(a:(List ByteArray))=>(some a))):Option (List ByteArray)).bind fun b=>(some b))
def f_fault_Path_post (a0:GErr):(List ByteArray)→Value→IM→HL→Prop:=
 fun(c:(List ByteArray)) (v:Value) (M':IM) (H':HL)=>∃ a b,a=v∧H'=[b]∧OwnS Kd.str M' a c b
theorem f_fault_Path_ok (a0:GErr) (M:IM) (hE:Env M) (res:(List ByteArray)) (h:f_fault_Path a0=some res):
 Tri prog 69 #[(GV a0)] M [] (f_fault_Path_post a0 res):=by
 unfold f_fault_Path at h
 refine Te func69 Z Z ?_
 intro F ρ hρ
 refine Sr (qa Zs (Ns (qa Zs (Nt ?_))))
 obtain ⟨r,u,h⟩:=bnd h
 refine Jf (fun(r:(List ByteArray)) ρ' M' H'=>∃ b i,M.le M'∧i::F=H'∧ρ' 3=b∧OwnS Kd.str M' b r i) r ?_ ?_
 have h:=u
 refine Bk (WC.e0 ?_)
 obtain ⟨L,v,q⟩:=bnd h
 clear h
 refine WC.loop v (fun(p_:(GErr×(List ByteArray))) ρ' M' H'=>match p_ with |(m,n)=>∃ c j,M.le M'∧j::F=H'∧ρ' 0=(GV m)∧ρ' 3=c∧OwnS Kd.str M' c n j) ?_ ?_
 exact⟨Zs,[],lr,Z,(hρ 0),Z,(OwnS.nil _ _)⟩
 rintro ⟨m,n⟩ N O P Q h ⟨c,j,d,rfl,l,e,a⟩
 unfold f_fault_Path_l0 at h
 refine Cs (Sr (qM (GV m) l (qu (Bv (!m.isNil)) (errNotNil underlying32 Z) (Nt (Ch h Z (fun w h=> ?_) (fun w h=> ?_))))))
 refine Ck (Tc (Bk (Sr (We (Al ze114 Z) Z ?_))))
 rintro _ _ _ - ⟨rfl,s,rfl,rfl⟩
 refine Nt (Cs (Sr (qM (GV m) l (qu (.iface 116 (pt s 0)) (makeInterface cc116 Z) ?_))))
 obtain ⟨⟨x,f,E,o⟩,y,h⟩:=bnd h
 have hE:=hE.mono d
 refine We (Cb co68 (f_errors_As_fault_ok m (⟨(⟨#[]⟩:ByteArray),(0:Int),GErr.nil⟩:T_api_Fault) _ _ hE (x,f,E,o) y) (args2 Z Z)) Z ?_
 rintro _ G _ g ⟨_,⟨rfl,rfl⟩,rfl⟩
 refine WL.a1 (qu (Bv (!x)) (PO.not Z) (Nt (Ch h Z (fun z h=> ?_) (fun z h=> ?_))))
 refine WC.exit (WQ.thenE (WQ.blockM Z (WQ.leaveE n (oi h).symm (fun k=> ?_))))
 subst k
 have h:=q
 refine WQ.blockH (Dr ?_)
 obtain rfl:=oi h
 refine Tj ?_
 have a:=a.mono g
 exact⟨c,j,(d.trans g),Z,e,a⟩
 refine Ck (Tc (Sr (qM c e (qu (pt s 0) (Fa fo114_0 Z Z) (qu (Sv f) (Lb 0 pl9 Z Z Z) (We (buildSliceL (cl:=[(Sv f)]) underlying118 iz9 Z (Pc (Sv f) Z Z Pz) Z) Z ?_))))))
 rintro _ _ _ - ⟨rfl,A,rfl,rfl⟩
 have I:OwnS Kd.str G (.slice (some ⟨A,0,none⟩) 1 1) [f] [(A, .cells #[(Sv f)] 9 (0,0))]:=OwnS.rows (css:=[[(Sv f)]]) (Rows.cons Z Rows.nil) Z Z
 obtain ⟨B,h⟩:=grd_i h
 refine Wb ?_
 have a:=a.mono g
 refine We (append (dd:=Kd.str) (xs:=n) (ys:=[f]) underlying118 underlying118 in9 Z (appB (by decide) B) (by decide) Z Z a (I.src 1 Z)) Z ?_
 rintro C _ _ - ⟨rfl,J,rfl,K⟩
 refine qa C (Nt (Cg (qu (pt s 2) (Fa fo114_2 Z Z) (qu (GV o) (Lb 2 pl32 Z Z Z) (qa (GV o) (Wz (Bn (Qa (Dr (Qa (Dr ?_)))))))))))
 exact WQ.again (o,n++[f]) (oi h).symm ⟨C,J,(d.trans g),Z,Z,Z,K⟩
 refine WC.exit (WQ.thenE (WQ.leaveE n (oi h).symm (fun k=> ?_)))
 subst k
 have h:=q
 refine WQ.blockH ?_
 obtain rfl:=oi h
 exact Tj ⟨c,j,d,Z,e,a⟩
 rintro R S T ⟨b,i,t,rfl,p,D⟩
 exact Sr (qM b p (qa b (Nt (Cr (Rf h [i] Z (Rs Z Z) t ⟨b,i,Z,Z,D⟩)))))
noncomputable def f_fault_Under_l0 (a1:ByteArray) (b:(List ByteArray)) (s_:Int):Option (Int⊕(Unit⊕Unit)):=
 match s_ with
 |a=>
 (if(decide (a<(b.length:Int)))=true then(grd (0≤a∧a<b.length) (if(decide ((rd b a)=a1))=true then(some (inr (inr ())))else(some (inl (i64.wrap (a+(1:Int)))))))else(some (inr (inl ()))))
noncomputable def f_fault_Under (a0:GErr) (a1:ByteArray):Option Bool:=
 ((((f_fault_Path a0).bind fun a=>((iter (f_fault_Under_l0 a1 a) (0:Int)).bind (Sum.elim (fun _=>(some (inl ()))) (fun _=>(((some true)).bind fun r=>some (inr r)))))):Option (Unit⊕Bool)).bind (Sum.elim (fun _=>(some false)) some))
def f_fault_Under_post (a0:GErr) (a1:ByteArray):Bool→Value→IM→HL→Prop:=
 fun(a:Bool) (v:Value) (M':IM) (H':HL)=>(.bool a)=v∧H'=[]
theorem f_fault_Under_ok (a0:GErr) (a1:ByteArray) (M:IM) (hE:Env M) (res:Bool) (h:f_fault_Under a0 a1=some res):
 Tri prog 23 #[(GV a0),(Sv a1)] M [] (f_fault_Under_post a0 a1 res):=by
 unfold f_fault_Under at h
 refine Te func23 Z Z ?_
 intro F ρ hρ
 refine Sr (qa (Bv false) (Nt ?_))
 obtain ⟨z,r,h⟩:=bnd h
 refine WC.joinE (fun(_:Unit) ρ' M' H'=>M.le M'∧F=H') z ?_ ?_
 have s:=h
 have h:=r
 refine Sr (qM (GV a0) (hρ 0) ?_)
 obtain ⟨c,t,h⟩:=bnd h
 refine We (Ca co69 (f_fault_Path_ok a0 _ hE c t) (args1 Z)) Z ?_
 rintro _ A _ l ⟨_,⟨u,v,rfl,rfl,f⟩,rfl⟩
 refine WL.a1 (qu (Iv (c.length:Int)) (lenS underlying118 Z f.len) (qm (Iv 0) (Nt (Bk ?_))))
 obtain ⟨D,w,m⟩:=bnd h
 clear h
 refine WC.loop w (fun(b:Int) ρ' M' H'=>A.le M'∧v::F=H'∧ρ' 1=(Sv a1)∧ρ' 8=u∧ρ' 9=(Iv (c.length:Int))∧ρ' 10=(Iv b)) ?_ ?_
 exact⟨lr,Z,(hρ 1),Z,Z,Z⟩
 rintro b E G I J h ⟨d,rfl,g,i,j,a⟩
 unfold f_fault_Under_l0 at h
 refine Sr (qu (Bv (decide (b<(c.length:Int)))) (lss a j) (Nt (Cs (Ch h Z (fun x h=> ?_) (fun x h=> ?_)))))
 refine Ck (Tc (Cs (Bk (Sr ?_))))
 obtain ⟨k,h⟩:=grd_i h
 have f:=f.mono d
 obtain ⟨B,C,o,p,hhas35⟩:=f.at k.1 k.2
 obtain rfl:=p
 refine qu (.pointer (some B)) (indexAddr (n:=c.length) underlying118 sz9 i a k.1 k.2 o) (qu (Sv (rd c b)) (loadC 0 pl9 Z Z (chunkHas0 hhas35)) (qa (Sv (rd c b)) (Ns (qm (Sv (rd c b)) (qM (Sv a1) g (qu (Bv (decide ((rd c b)=a1))) (seql Z Z) (Nt (Ch h Z (fun y h=> ?_) (fun y h=> ?_)))))))))
 refine Sr (qa (Bv true) (Nt (Cr (Br (Tr (WQ.leaveR (inr ()) (oi h).symm (fun e=> ?_)))))))
 subst e
 have h:=(elimR m)
 refine Br (Tr ?_)
 have h:=KK.early h s
 exact Dr (Rf h [] Z (Rs Z Z) (l.trans d) ⟨Z,Z⟩)
 exact Ck (Bn (Tc (Cg (qu (Iv (i64.wrap (b+1))) (add a Z) (qm (Iv (i64.wrap (b+1))) (Wz (WQ.again (i64.wrap (b+1)) (oi h).symm ⟨d,Z,g,i,j,Z⟩)))))))
 refine WC.exit (WQ.thenE (WQ.leaveE (inl ()) (oi h).symm (fun e=> ?_)))
 subst e
 have h:=elimL m
 exact WQ.blockH (Dr (WQ.thenFE h ⟨(l.trans d),Z⟩))
 rintro _ K L N rfl ⟨q,rfl⟩
 have h:=(Sum.elim_inl _ _ _).symm.trans h
 exact Sr (qa (Bv false) (Nt (Cr (Rf h [] Z (Rs Z Z) q ⟨Z,Z⟩))))
noncomputable def f_law16_wrong (a0:GErr) (a1:T_ref16_Wrong):Option Bool:=
 (if a0.isNil=true then(some (decide (a1.Code=(0:Int))))else((f_fault_Where a0).bind fun(a,b)=>((((f_fault_Of a0).bind fun c=>(if(decide (c=a1.Code))=true then(if b=true then(if(decide (a=a1.At))=true then((f_fault_Under a0 a1.Op).bind fun d=>(some d))else(some false))else(some false))else(some false))):Option Bool).bind fun e=>(some e))))
def f_law16_wrong_post (a0:GErr) (a1:T_ref16_Wrong):Bool→Value→IM→HL→Prop:=
 fun(a:Bool) (v:Value) (M':IM) (H':HL)=>(.bool a)=v∧H'=[]
theorem f_law16_wrong_ok (a0:GErr) (a1:T_ref16_Wrong) (M:IM) (hE:Env M) (res:Bool) (h:f_law16_wrong a0 a1=some res):
 Tri prog 8 #[(GV a0),(a36_ a1)] M [] (f_law16_wrong_post a0 a1 res):=by
 unfold f_law16_wrong at h
 refine Te func8 Z Z ?_
 intro F ρ hρ
 refine Sr (We (box (cs:=(l36 a1).toArray) (congrArg Value.cells (asE (a36_ a1) (hρ 1)))) Z ?_)
 rintro _ _ _ - ⟨rfl,g,rfl,rfl⟩
 refine qa (Bv false) (Nt (Cs (Sr (qM (GV a0) (hρ 0) (qu (Bv a0.isNil) (errNil underlying32 Z) (Nt (Ch h Z (fun p h=> ?_) (fun p h=> ?_))))))))
 exact Sr (qu (pt g 2) (Fa fo36_2 Z Z) (qu (Iv a1.Code) (Lb 0 pl34 Z Z Z) (qu (Bv (decide (a1.Code=0))) (eql Z Z) (qa (Bv (decide (a1.Code=0))) (Nt (Cr (Tr (Dr (Rf h [] Z (Rs Z Z) lr ⟨Z,Z⟩)))))))))
 refine Ck (Tc (Sr (qM (GV a0) (hρ 0) ?_)))
 obtain ⟨⟨d,f⟩,q,h⟩:=bnd h
 refine We (Ca co21 (f_fault_Where_ok a0 _ hE (d,f) q) (args1 Z)) Z ?_
 rintro _ u _ i ⟨_,⟨rfl,rfl⟩,rfl⟩
 refine WL.a0 (qm (.tuple #[(Iv d),(Bv f)]) (qu (Iv d) (Xt Z Z) (qu (Bv f) (Xt Z Z) (qa (Iv d) (qa (Bv f) (Nt ?_))))))
 obtain ⟨k,r,h⟩:=bnd h
 refine Jf (fun(k:Bool) ρ' M' H'=>u.le M'∧[(g, .cells (l36 a1).toArray 36 (0,0))]::F=H'∧ρ' 4=(Bv k)) k ?_ ?_
 have h:=r
 refine WC.draw [0,1,0,4,15,31,63,127,255,511,511,1535,4095,8191,16383,32767,32767,98303,262143,524287,1048575] (.pure 0 (.pure 2 (.pure 3 (.alt 1 (.pure 4 (.pure 5 (.pure 6 (.pure 7 (.pure 8 (.pure 9 (.pure 10 (.pure 11 (.pure 12 (.pure 13 (.pure 14 (.pure 15 (.pure 16 (.pure 17 (.alt 18 (.pure 19 (.pure 20 .done)) .none))))))))))))))) .none)))) mixed (by kernel_rfl) (qt (GV a0) Z (Mv (hρ 0)) (qt (pt g 2) Z (Fa fo36_2 Z Z) (qt (Iv a1.Code) Z (Lb 0 pl34 Z Z Z) ?_)))
 obtain ⟨l,s,h⟩:=bnd h
 have hE:=hE.mono i
 refine Ta Z (Ca co22 (f_fault_Of_ok a0 _ hE l s) (args1 Z)) Z ?_ ?_
 rintro _ v _ c ⟨_,⟨rfl,rfl⟩,rfl⟩
 refine⟨(Ss Z (Lb 0 pl34 Z Z Z) Z (Ss Z (Fa fo36_2 Z Z) Z (Sl Z))), ?_⟩
 refine WT.a0 (qt (Bv (decide (l=a1.Code))) Z (eql Z Z) (qt (Bv (decide (l=a1.Code))) Z (Mv Z) ?_))
 rcases Bi h with⟨e,h⟩ |⟨e,h⟩
 refine Tn (Bv f) 22 Z Z Z e (Mv Z) Z (qt (Bv f) Z (Pt Z e Z) (qt (Bv f) Z (Mv Z) ?_))
 rcases Bi h with⟨a,h⟩ |⟨a,h⟩
 refine Tn (Iv d) 25 Z Z Z a (Mv Z) Z (Tn (pt g 1) 25 Z Z Z a (Fa fo36_1 Z Z) Z (Tn (Iv a1.At) 25 Z Z Z a (Lb 0 pl3 Z Z Z) Z (Tn (Bv (decide (d=a1.At))) 25 Z Z Z a (eql Z Z) Z (qt (Bv (decide (d=a1.At))) Z (Pt Z a Z) (qt (Bv (decide (d=a1.At))) Z (Mv Z) ?_)))))
 rcases Bi h with⟨b,h⟩ |⟨b,h⟩
 refine Tn (GV a0) 31 Z Z Z b (Mv (hρ 0)) Z (Tn (pt g 0) 31 Z Z Z b (Fa fo36_0 Z Z) Z (Tn (Sv a1.Op) 31 Z Z Z b (Lb 0 pl9 Z Z Z) Z ?_))
 obtain ⟨m,t,h⟩:=bnd h
 have hE:=hE.mono c
 refine WT.altOn 31 Z Z Z b (Ca co23 (f_fault_Under_ok a0 a1.Op _ hE m t) (args2 Z Z)) Z ?_ ?_
 rintro _ w _ n ⟨_,⟨rfl,rfl⟩,rfl⟩
 refine⟨(Sl Z), ?_⟩
 refine WT.a0 (qt (Bv m) Z (Pt Z b Z) (qt (Bv m) Z (Ag Z) (Ti ?_)))
 obtain rfl:=oi h
 exact Tj ⟨(c.trans n),Z,Z⟩
 exact Tz
 refine Tf 31 Z Z Z b Z (Tf 31 Z Z Z b Z (Tf 31 Z Z Z b Z (Tg 31 Z Z Z b Z ⟨(Sl Z), ?_⟩ ?_)))
 refine qt (Bv false) Z (Pf Z b Z) (qt (Bv false) Z (Ag Z) (Ti ?_))
 obtain rfl:=oi h
 exact Tj ⟨c,Z,Z⟩
 exact Tz
 refine Tf 25 Z Z Z a Z (Tf 25 Z Z Z a Z (Tf 25 Z Z Z a Z (Tf 25 Z Z Z a Z (qt (Bv false) Z (Pf Z a Z) (qt (Bv false) Z (Mv Z) (Tf 31 Z Z Z Z Z (Tf 31 Z Z Z Z Z (Tf 31 Z Z Z Z Z (Tg 31 Z Z Z Z Z ⟨(Sl Z), ?_⟩ ?_)))))))))
 refine qt (Bv false) Z (Pf Z Z Z) (qt (Bv false) Z (Ag Z) (Ti ?_))
 obtain rfl:=oi h
 exact Tj ⟨c,Z,Z⟩
 exact Tz
 refine Tf 22 Z Z Z e Z (qt (Bv false) Z (Pf Z e Z) (qt (Bv false) Z (Mv Z) (Tf 25 Z Z Z Z Z (Tf 25 Z Z Z Z Z (Tf 25 Z Z Z Z Z (Tf 25 Z Z Z Z Z (qt (Bv false) Z (Pf Z Z Z) (qt (Bv false) Z (Mv Z) (Tf 31 Z Z Z Z Z (Tf 31 Z Z Z Z Z (Tf 31 Z Z Z Z Z ?_)))))))))))
 refine Tg 31 Z Z Z Z Z ⟨(Sl Z), ?_⟩ ?_
 refine qt (Bv false) Z (Pf Z Z Z) (qt (Bv false) Z (Ag Z) (Ti ?_))
 obtain rfl:=oi h
 exact Tj ⟨c,Z,Z⟩
 exact Tz
 exact Tz
 rintro x y z ⟨o,rfl,j⟩
 exact Cr (Dr (Rf h [] Z (Rs Z j) (i.trans o) ⟨Z,Z⟩))
noncomputable def f_law16_DumpChecks (a0:T_api_Image):Option Bool:=
 ((f_law16_light a0).bind fun a=>(if(!a)=true then((f_law16_works).bind fun b=>(some b))else((((f_dump_Check a0).bind fun c=>((f_ref16_Check a0).bind fun d=>((f_law16_wrong c d).bind fun e=>(if e=true then((f_law16_works).bind fun f=>(some f))else(some false))))):Option Bool).bind fun g=>(some g))))
def f_law16_DumpChecks_post (a0:T_api_Image) (a b c d:Value):Bool→Value→IM→HL→Prop:=
 fun(e:Bool) (v:Value) (M':IM) (H':HL)=>(.bool e)=v∧H'=[]
theorem f_law16_DumpChecks_ok (a0:T_api_Image) (M:IM) (a b c d:Value) (g:RS kd_api_Broker M a a0.Brokers) (i:RS kd_api_Topic M b a0.Topics) (j:RS kd_api_Config M c a0.Configs) (k:RS kd_api_Done M d a0.Done) (hE:Env M) (res:Bool) (h:f_law16_DumpChecks a0=some res):
 Tri prog 3 #[(a27_ a0 a b c d)] M [] (f_law16_DumpChecks_post a0 a b c d res):=by
 unfold f_law16_DumpChecks at h
 refine Te func3 Z Z ?_
 intro F ρ hρ
 refine Sr (We (box (cs:=(l27 a0 a b c d).toArray) (congrArg Value.cells (asE (a27_ a0 a b c d) (hρ 0)))) Z ?_)
 rintro _ _ _ - ⟨rfl,J,rfl,rfl⟩
 refine qa (Bv false) (Nt (Cs (Sr (qu (a27_ a0 a b c d) (La (cs:=(l27 a0 a b c d)) 0 ag27 sz27 Z Z Z) ?_))))
 obtain ⟨u,v,h⟩:=bnd h
 refine We (Ca co6 (f_law16_light_ok a0 _ _ _ _ _ g i j k u v) (args1 Z)) Z ?_
 rintro _ K _ e ⟨_,⟨rfl,rfl⟩,rfl⟩
 refine WL.a0 (qu (Bv (!u)) (PO.not Z) (Nt (Ch h Z (fun w h=> ?_) (fun w h=> ?_))))
 refine Sr ?_
 obtain ⟨x,y,h⟩:=bnd h
 refine We (Ca co7 (f_law16_works_ok _ x y) (args0)) Z ?_
 rintro _ L _ p ⟨_,⟨rfl,rfl⟩,rfl⟩
 exact WL.a0 (qa (Bv x) (Nt (Cr (Tr (Dr (Rf h [] Z (Rs Z Z) (e.trans p) ⟨Z,Z⟩))))))
 refine Ck (Tc ?_)
 obtain ⟨q,z,h⟩:=bnd h
 refine Jf (fun(q:Bool) ρ' M' H'=>K.le M'∧[(J, .cells (l27 a0 a b c d).toArray 27 (0,0))]::F=H'∧ρ' 2=(Bv q)) q ?_ ?_
 have h:=z
 refine WC.draw [0,1,0,7,15,31,63,127,255] (.pure 0 (.pure 2 (.alt 1 (.alt 3 (.alt 4 (.pure 5 (.alt 6 (.pure 7 (.pure 8 .done)) .none)) .none) .none) .none))) mixed (by kernel_rfl) (qt (a27_ a0 a b c d) Z (La (cs:=(l27 a0 a b c d)) 0 ag27 sz27 Z Z Z) (qt (a27_ a0 a b c d) Z (La (cs:=(l27 a0 a b c d)) 0 ag27 sz27 Z Z Z) ?_))
 obtain ⟨A,B,h⟩:=bnd h
 have g:=g.mono e
 have i:=i.mono e
 have j:=j.mono e
 have k:=k.mono e
 refine Ta Z (Ca co9 (f_dump_Check_ok a0 _ _ _ _ _ g i j k A B) (args1 Z)) Z ?_ ?_
 rintro _ N _ f ⟨_,⟨rfl,rfl⟩,rfl⟩
 refine⟨(Ss Z (La (cs:=(l27 a0 a b c d)) 0 ag27 sz27 Z Z Z) Z (Sl Z)), ?_⟩
 refine WT.a0 ?_
 obtain ⟨C,D,h⟩:=bnd h
 have g:=g.mono f
 have i:=i.mono f
 have j:=j.mono f
 have k:=k.mono f
 refine Ta Z (Ca co10 (f_ref16_Check_ok a0 _ _ _ _ _ g i j k C D) (args1 Z)) Z ?_ ?_
 rintro _ O _ m ⟨_,⟨rfl,rfl⟩,rfl⟩
 refine⟨(Sl Z), ?_⟩
 refine WT.a0 ?_
 obtain ⟨E,G,h⟩:=bnd h
 have hE:=hE.mono ((e.trans f).trans m)
 refine Ta Z (Ca co8 (f_law16_wrong_ok A C _ hE E G) (args2 Z Z)) Z ?_ ?_
 rintro _ P _ n ⟨_,⟨rfl,rfl⟩,rfl⟩
 refine⟨(Sl Z), ?_⟩
 refine WT.a0 (qt (Bv E) Z (Mv Z) ?_)
 rcases Bi h with⟨l,h⟩ |⟨l,h⟩
 obtain ⟨r,I,h⟩:=bnd h
 refine WT.altOn 12 Z Z Z l (Ca co7 (f_law16_works_ok _ r I) (args0)) Z ?_ ?_
 rintro _ Q _ s ⟨_,⟨rfl,rfl⟩,rfl⟩
 refine⟨(Sl Z), ?_⟩
 refine WT.a0 (qt (Bv r) Z (Pt Z l Z) (qt (Bv r) Z (Ag Z) (Ti ?_)))
 obtain rfl:=oi h
 exact Tj ⟨(((f.trans m).trans n).trans s),Z,Z⟩
 exact Tz
 refine Tg 12 Z Z Z l Z ⟨(Sl Z), ?_⟩ ?_
 refine qt (Bv false) Z (Pf Z l Z) (qt (Bv false) Z (Ag Z) (Ti ?_))
 obtain rfl:=oi h
 exact Tj ⟨((f.trans m).trans n),Z,Z⟩
 exact Tz
 exact Tz
 exact Tz
 exact Tz
 rintro R S T ⟨t,rfl,o⟩
 exact Cr (Dr (Rf h [] Z (Rs Z o) (e.trans t) ⟨Z,Z⟩))

end Go.Proofs.YtpcbipcdfccnnaaGreatDoor.G
