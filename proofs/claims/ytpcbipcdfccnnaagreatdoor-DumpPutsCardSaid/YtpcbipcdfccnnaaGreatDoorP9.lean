/- Go functions: what they come to, and that they do. Printed by a program of the session (gen). -/
import Derived.Test.YtpcbipcdfccnnaaGreatDoorPF
import Derived.Test.YtpcbipcdfccnnaaGreatDoorP2
import Derived.Test.YtpcbipcdfccnnaaGreatDoorP7
import Derived.Test.YtpcbipcdfccnnaaGreatDoorP8
import Derived.Test.YtpcbipcdfccnnaaGreatDoorKShar2
import Derived.Test.YtpcbipcdfccnnaaGreatDoorKConv
import Derived.Test.YtpcbipcdfccnnaaGreatDoorKMap
import Derived.Test.YtpcbipcdfccnnaaGreatDoorKTight2
set_option linter.unusedVariables false
set_option linter.unusedSimpArgs false
set_option maxHeartbeats 8000000
set_option maxRecDepth 100000
namespace Go.Proofs.YtpcbipcdfccnnaaGreatDoor.G
open Go Go.KK
open PO EO IntKind Sum Tryz

noncomputable def QcZ (a0:GErr) (a1:QbR):Option (Bool×ByteArray×Int×GErr):=
 (if a0.isNil=true then(some (false,a1.Op,a1.At,a1.Err))else((QeB a0 a1).bind fun(a,b,c,d)=>(some (a,b,c,d))))
def Qm7 (a0:GErr) (a1:QbR) (a:Nat):(Bool×ByteArray×Int×GErr)→Value→IM→HL→Prop:=
 fun(p_:(Bool×ByteArray×Int×GErr)) (v:Value) (M':IM) (H':HL)=>match p_ with |(b,c,d,e)=>(.bool b)=v∧H'=[[(a, .cells #[(.string c),(.int .i64 d),(GV e)] 114 (0,0))]]
theorem QkZ (a0:GErr) (a1:QbR) (M:IM) (c:Nat) (hE:Env M) (res:(Bool×ByteArray×Int×GErr)) (h:QcZ a0 a1=some res):
 Tri prog 68 #[(GV a0),(.iface 116 (pt c 0))] M [[(c, .cells (l114 a1).toArray 114 (0,0))]] (Qm7 a0 a1 c res):=by
 unfold QcZ at h
 refine Te func68 Z Z ?_
 intro F ρ hρ
 refine Sr (qa (Bv false) (Nt (Cs (Sr (qM (GV a0) (hρ 0) (qu (Bv a0.isNil) (errNil underlying32 Z) (Nt (Ch h Z (fun e h=> ?_) (fun e h=> ?_)))))))))
 exact Sr (qa (Bv false) (Nt (Cr (Tr (Rf h [[(c, .cells (l114 a1).toArray 114 (0,0))]] Z (Rs Z Z) lr ⟨Z,Z⟩)))))
 refine Ck (Tc (Cs (Sr (qM (.iface 116 (pt c 0)) (hρ 1) (qu (Bv false) (ifcNil underlying20 Z) (Nt (WC.condF (b:=false) Z Z (Ck (Tc (Sr (qM (.iface 116 (pt c 0)) (hρ 1) ?_)))))))))))
 refine We (valueOf Q4B (QbK (show ev _ _=(.iface 116 (pt c 0)) from Z)) (Q96 ⟨c,0,none⟩)) Z ?_
 rintro _ _ _ - ⟨rfl,a,rfl,rfl⟩
 refine We (Al Q72 Z) Z ?_
 rintro _ _ _ - ⟨rfl,l,rfl,rfl⟩
 refine We (Sg (v:=(.agg #[(pt 1 116),(pt a 0),(Uv 150)])) (vl:=[(pt 1 116),(pt a 0),(Uv 150)]) (arr':=[(pt 1 116),(pt a 0),(Uv 150)]) Z QvY Z Z (onb Z) Z Z Z) Z ?_
 rintro _ _ _ - ⟨rfl,rfl⟩
 refine Ns (qu (.agg #[(pt 1 116),(pt a 0),(Uv 150)]) (La (cs:=[(pt 1 116),(pt a 0),(Uv 150)]) 0 Qx9 QvY Z Z Z) (We (extP Q7W (QbK (show ev _ _=(.agg #[(pt 1 116),(pt a 0),(Uv 150)]) from Z)) (Q2C _)) Z ?_))
 rintro _ _ _ - ⟨rfl,rfl,rfl⟩
 refine qa (.iface 193 (.agg #[.pointer (some ⟨1,116,none⟩)])) (Nt (Cs (Sr (qm (.iface 193 (.agg #[.pointer (some ⟨1,116,none⟩)])) (We (invE (show ev _ _=(.iface 193 (.agg #[.pointer (some ⟨1,116,none⟩)])) from Z) (QxB (pt 1 116)) Q4C inv0 QzK) Z ?_)))))
 rintro _ _ _ - ⟨rfl,rfl,rfl⟩
 refine qu (Bv false) (neqR Z Z (by decide)) (qm (Bv false) (qo 20 Z (.agg #[(pt 1 116),(pt a 0),(Uv 150)]) (La (cs:=[(pt 1 116),(pt a 0),(Uv 150)]) 0 Qx9 QvY Z Z Z) (On 20 Z Z Z (We (isNil 1 Q7X QyC Z Q7O (QbK (show ev _ _=(.agg #[(pt 1 116),(pt a 0),(Uv 150)]) from Z)) Z) Z ?_))))
 rintro _ _ _ - ⟨rfl,rfl,rfl⟩
 refine qu (Bv false) (Pf Z Z Z) (Nt (WC.condF (b:=false) Z Z (Ck (Tc (Sr (qm (.iface 193 (.agg #[.pointer (some ⟨1,116,none⟩)])) (We (invE (show ev _ _=(.iface 193 (.agg #[.pointer (some ⟨1,116,none⟩)])) from Z) (Q19 (pt 1 116)) Q70 inv0 QzH) Z ?_)))))))
 rintro _ _ _ - ⟨rfl,rfl,rfl⟩
 refine qa (.iface 193 (.agg #[.pointer (some ⟨1,114,none⟩)])) (Nt (Cs (Sr (qm (.iface 193 (.agg #[.pointer (some ⟨1,114,none⟩)])) (We (invE (show ev _ _=(.iface 193 (.agg #[.pointer (some ⟨1,114,none⟩)])) from Z) (QxB (pt 1 114)) Q4C inv0 QzJ) Z ?_)))))
 rintro _ _ _ - ⟨rfl,rfl,rfl⟩
 refine qu (Bv true) (neqR Z Z (by decide)) (qm (Bv true) (On 30 Z Z Z (qm (.iface 193 (.agg #[.pointer (some ⟨1,114,none⟩)])) (qo 30 Z (.iface 193 (.agg #[.pointer (some ⟨1,32,none⟩)])) (loadG Q7Q hE) (On 30 Z Z Z (We (invE (show ev _ _=(.iface 193 (.agg #[.pointer (some ⟨1,114,none⟩)])) from Z) (QrJ (pt 1 114)) Q71 (inv1 Z) Qo5) Z ?_))))))
 rintro _ _ _ - ⟨rfl,rfl,rfl⟩
 refine qo 30 Z (Bv (!true)) (PO.not Z) (qu (Bv (!true)) (Pt Z Z Z) (Nt (WC.condF (b:= !true) Z Z (Ck (Tc (Sr (qM (GV a0) (hρ 0) (qM (.iface 116 (pt c 0)) (hρ 1) (qu (.agg #[(pt 1 116),(pt a 0),(Uv 150)]) (La (cs:=[(pt 1 116),(pt a 0),(Uv 150)]) 0 Qx9 QvY Z Z Z) (qm (.iface 193 (.agg #[.pointer (some ⟨1,114,none⟩)])) ?_))))))))))
 obtain ⟨⟨f,g,i,j⟩,k,h⟩:=bnd h
 refine WL.f1 (Wb (We (EO.call2 Q7D (Qo1 a0 a1 _ _ _ (f,g,i,j) k) (QlT Z Z Z Z)) Z ?_))
 rintro _ m _ d ⟨_,⟨rfl,rfl⟩,rfl⟩
 exact WL.a2 (qa (Bv f) (Nt (Cr (Qa (Dr (Qa (Dr (Rf h [[(c, .cells #[(Sv g),(Iv i),(GV j)] 114 (0,0))]] Z (Rs Z Z) d ⟨Z,Z⟩))))))))
noncomputable def QjI (a0:GErr):Option (Int×Bool):=
 ((QcZ a0 (⟨(⟨#[]⟩:ByteArray),(0:Int),GErr.nil⟩:QbR)).bind fun(a,c,b,d)=>(if(!a)=true then(some ((0:Int),false))else(some (b,true))))
def QrB (a0:GErr):(Int×Bool)→Value→IM→HL→Prop:=
 fun(p_:(Int×Bool)) (v:Value) (M':IM) (H':HL)=>match p_ with |(a,b)=>(.tuple #[(.int .i64 a),(.bool b)])=v∧H'=[]
theorem QtY (a0:GErr) (M:IM) (hE:Env M) (res:(Int×Bool)) (h:QjI a0=some res):
 Tri prog 21 #[(GV a0)] M [] (QrB a0 res):=by
 unfold QjI at h
 refine Te func21 Z Z ?_
 intro F ρ hρ
 refine Sr (qa (Iv 0) (qa (Bv false) (Ns (We (Al Q4D Z) Z ?_))))
 rintro _ _ _ - ⟨rfl,c,rfl,rfl⟩
 refine Nt (Cs (Sr (qM (GV a0) (hρ 0) (qu (.iface 116 (pt c 0)) (makeInterface Q7C Z) ?_))))
 obtain ⟨⟨d,g,b,i⟩,e,h⟩:=bnd h
 refine We (Cb co68 (QkZ a0 (⟨(⟨#[]⟩:ByteArray),(0:Int),GErr.nil⟩:QbR) _ _ hE (d,g,b,i) e) (QaU Z Z)) Z ?_
 rintro _ j _ a ⟨_,⟨rfl,rfl⟩,rfl⟩
 refine WL.a1 (qu (Bv (!d)) (PO.not Z) (Nt (Ch h Z (fun f h=> ?_) (fun f h=> ?_))))
 exact Sr (qa (Iv 0) (qa (Bv false) (Nt (Cr (Tr (Dr (Rf h [] Z (QgZ Z Z Z) a ⟨Z,Z⟩)))))))
 exact Ck (Tc (Sr (qu (pt c 1) (Fa Q6E Z Z) (qu (Iv b) (Lb 0 pl3 Z Z Z) (qa (Iv b) (qa (Bv true) (Nt (Cr (Dr (Rf h [] Z (QgZ Z Z Z) a ⟨Z,Z⟩))))))))))
noncomputable def QdI (a1:Int) (s_:GErr):Option (GErr⊕(Bool×Int)):=
 match s_ with
 |b=>
 (match b with | .nil=>none | .code c=>(some (inr (true,c))) | .fault d a28 e=>((Qg2 (⟨d,a28,e⟩:QbR)).bind fun a=>(if a.isNil=true then(some (inr (false,a1)))else(some (inl a)))) | .other f=>(some (inr (false,a1))))
noncomputable def QeN (a0:GErr) (a1:Int):Option (Bool×Int):=
 ((iter (QdI a1) a0).bind (fun(a,b)=>(some (a,b))))
def QnO (a0:GErr) (a1:Int) (a b:Nat):(Bool×Int)→Value→IM→HL→Prop:=
 fun(p_:(Bool×Int)) (v:Value) (M':IM) (H':HL)=>match p_ with |(c,d)=>(.bool c)=v∧H'=[[(a, .cells #[(.int .i64 d)] 34 (0,0))],[(b, .cells #[(.pointer (some ⟨a,0,none⟩))] 117 (0,0))]]
theorem Qp1 (a0:GErr) (a1:Int) (M:IM) (k m:Nat) (res:(Bool×Int)) (h:QeN a0 a1=some res):
 Tri prog 104 #[(GV a0),(.iface 117 (pt k 0)),(.agg #[(pt 1 117),(pt m 0),(Uv 150)]),(.iface 193 (.agg #[.pointer (some ⟨1,34,none⟩)]))] M [[(k, .cells #[(Iv a1)] 34 (0,0))],[(m, .cells #[(pt k 0)] 117 (0,0))]] (QnO a0 a1 k m res):=by
 unfold QeN at h
 refine Te func104 Z Z ?_
 intro F ρ hρ
 refine Sr (We (box (cs:=#[(pt 1 117),(pt m 0),(Uv 150)]) (congrArg Value.cells (asE (.agg #[(pt 1 117),(pt m 0),(Uv 150)]) (hρ 2)))) Z ?_)
 rintro _ _ _ - ⟨rfl,u,rfl,rfl⟩
 refine qa (Bv false) (Nt (Bk ?_))
 obtain ⟨A,w,n⟩:=bnd h
 clear h
 refine WC.loop w (fun(s:GErr) ρ' M' H'=>M.le M'∧[(u, .cells #[(pt 1 117),(pt m 0),(Uv 150)] 154 (0,0))]::[(k, .cells #[(Iv a1)] 34 (0,0))]::[(m, .cells #[(pt k 0)] 117 (0,0))]::F=H'∧ρ' 0=(GV s)∧ρ' 1=(.iface 117 (pt k 0))∧ρ' 3=(.iface 193 (.agg #[.pointer (some ⟨1,34,none⟩)]))∧ρ' 6=(pt u 0)) ?_ ?_
 exact⟨lr,Z,(hρ 0),(hρ 1),(hρ 3),Z⟩
 rintro s B C D E h ⟨g,rfl,a,t,c,l⟩
 unfold QdI at h
 refine Bk (Cs (Sr (qM (GV s) a ?_)))
 rcases s with _ |i |⟨d,a28,e⟩ |j
 refine We (extP xt99 (QbK (show ev _ _= .nilIface from Z)) Q7U) Z ?_
 rintro _ _ _ - ⟨rfl,rfl,rfl⟩
 exact qM (.iface 193 (.agg #[.pointer (some ⟨1,34,none⟩)])) c (Q68 h)
 refine We (extP xt99 (QbK (show ev _ _=(.iface 34 (Iv i)) from Z)) (ty34 _)) Z ?_
 rintro _ _ _ - ⟨rfl,rfl,rfl⟩
 refine qM (.iface 193 (.agg #[.pointer (some ⟨1,34,none⟩)])) c (We (invE (show ev _ _=(.iface 193 (.agg #[.pointer (some ⟨1,34,none⟩)])) from Z) (QfP (pt 1 34)) Q1C (inv1 Z) QnZ) Z ?_)
 rintro _ _ _ - ⟨rfl,rfl,rfl⟩
 refine Nt (WC.condT (b:=true) Z Z (Sr (qu (.agg #[(pt 1 117),(pt m 0),(Uv 150)]) (La (cs:=[(pt 1 117),(pt m 0),(Uv 150)]) 0 Qx9 QvY l Z Z) (We (rvElem (r:=fun p=> .agg #[(pt 1 34), .pointer (some p), .int .u64 386]) 2 Q7Y QyD Z Q7P Q9Z mk34 (QbK (show ev _ _=(.agg #[(pt 1 117),(pt m 0),(Uv 150)]) from Z)) Z) Z ?_))))
 rintro _ _ _ - ⟨rfl,rfl,rfl⟩
 refine qM (GV (GErr.code i)) a (We (valueOf Q4B (QbK (show ev _ _=(.iface 34 (Iv i)) from Z)) (vo34 i)) Z ?_)
 rintro _ _ _ - ⟨rfl,z,rfl,rfl⟩
 refine Wb (We (rvSet (arr:=[(Iv a1)]) (vl:=[(Iv i)]) (v:=(Iv i)) Q7Z Q4A Q39 Z da34 (QaU (show ev _ _=(.agg #[(pt 1 34),(pt k 0),(Uv 386)]) from Z) (show ev _ _=(.agg #[(pt 1 34),(pt z 0),(Uv 130)]) from Z)) (fun _ hs=>QmB pl34 (hs.cellC 1 Z (QdK.trans Z))) Z sz34 Z (onb Z)) Z ?_)
 rintro _ _ _ - ⟨rfl,rfl,rfl⟩
 refine Ns (qa (Bv true) (Nt (Cr (Tr (Br (WQ.leaveR (true,i) (oi h).symm (fun f=> ?_)))))))
 subst f
 have h:=n
 exact Br (Qa (Dr (Qa (Dr (Rf h [[(k, .cells #[(Iv i)] 34 (0,0))],[(m, .cells #[(pt k 0)] 117 (0,0))]] Z (Rs Z Z) g ⟨Z,Z⟩)))))
 refine We (extP xt99 (QbK (show ev _ _=(.iface 114 (.agg #[.string d, .int .i64 a28,GV e])) from Z)) (Q7T _)) Z ?_
 rintro _ _ _ - ⟨rfl,rfl,rfl⟩
 refine qM (.iface 193 (.agg #[.pointer (some ⟨1,34,none⟩)])) c (We (invE (show ev _ _=(.iface 193 (.agg #[.pointer (some ⟨1,114,none⟩)])) from Z) (QfP (pt 1 114)) Q1C (inv1 Z) QnA) Z ?_)
 rintro _ _ _ - ⟨rfl,rfl,rfl⟩
 refine Nt (WC.condF (b:=false) Z Z (Ck (Tc (Cs (Sr (qM (GV (GErr.fault d a28 e)) a (qu (.tuple #[.nilIface,(Bv false)]) (asserts (show ev _ _=(.iface 114 (.agg #[.string d, .int .i64 a28,GV e])) from Z) (Q18 _ _)) (qm (.tuple #[.nilIface,(Bv false)]) (qu .nilIface (Xt Z Z) (qu (Bv false) (Xt Z Z) (qa .nilIface ?_)))))))))))
 refine qa (Bv false) (Ns (qm (Bv false) (qm (Bv false) ?_)))
 iterate 3 refine Of 31 Z Z Z Z ?_
 refine qu (Bv false) (Pf Z Z Z) (Nt (WC.condF (b:=false) Z Z (Ck (Tc (Sr (qM (GV (GErr.fault d a28 e)) a (Nt (Bk (Sr (qu (.tuple #[(GV (GErr.fault d a28 e)),(Bv true)]) (asserts (show ev _ _=(.iface 114 (.agg #[.string d, .int .i64 a28,GV e])) from Z) (QyB _ _)) (qu (Bv true) (Xt Z Z) ?_)))))))))))
 refine qu (GV (GErr.fault d a28 e)) (Xt Z Z) (Nt (WC.condT (b:=true) Z Z (Sr (qa (GV (GErr.fault d a28 e)) (Ns (qm (GV (GErr.fault d a28 e)) ?_))))))
 obtain ⟨o,x,h⟩:=bnd h
 refine We (invT (show ev _ _=(.iface 114 (.agg #[.string d, .int .i64 a28,GV e])) from Z) (Qs6 _) Q7K inv0 (QkJ (⟨d,a28,e⟩:QbR) _ o x)) Z ?_
 rintro _ G _ q ⟨_,⟨rfl,rfl⟩,rfl⟩
 refine WL.a0 (qa (GV o) (Ns (qm (GV o) (qu (Bv o.isNil) (errNil underlying32 Z) (Nt (Ch h Z (fun y h=> ?_) (fun y h=> ?_)))))))
 refine Sr (qa (Bv false) (Nt (Cr (Br (Br (WQ.leaveR (false,a1) (oi h).symm (fun f=> ?_)))))))
 subst f
 have h:=n
 exact Br (Dr (Rf h [[(k, .cells #[(Iv a1)] 34 (0,0))],[(m, .cells #[(pt k 0)] 117 (0,0))]] Z (Rs Z Z) (g.trans q) ⟨Z,Z⟩))
 exact Ck (Bn (Bn (WQ.again o (oi h).symm ⟨(g.trans q),Z,Z,t,c,l⟩)))
 refine We (extP xt99 (QbK (show ev _ _=(.iface 0 (.pointer (some j))) from Z)) (ty0 _)) Z ?_
 rintro _ _ _ - ⟨rfl,rfl,rfl⟩
 refine qM (.iface 193 (.agg #[.pointer (some ⟨1,34,none⟩)])) c (We (invE (show ev _ _=(.iface 193 (.agg #[.pointer (some ⟨1,0,none⟩)])) from Z) (QfP (pt 1 0)) Q1C (inv1 Z) Qo4) Z ?_)
 rintro _ _ _ - ⟨rfl,rfl,rfl⟩
 refine Nt (WC.condF (b:=false) Z Z (Ck (Tc (Cs (Sr (qM (GV (GErr.other j)) a (qu (.tuple #[.nilIface,(Bv false)]) (asserts (show ev _ _=(.iface 0 (.pointer (some j))) from Z) (Q16 _ _)) (qm (.tuple #[.nilIface,(Bv false)]) (qu .nilIface (Xt Z Z) (qu (Bv false) (Xt Z Z) (qa .nilIface ?_)))))))))))
 refine qa (Bv false) (Ns (qm (Bv false) (qm (Bv false) ?_)))
 iterate 3 refine Of 31 Z Z Z Z ?_
 refine qu (Bv false) (Pf Z Z Z) (Nt (WC.condF (b:=false) Z Z (Ck (Tc (Sr (qM (GV (GErr.other j)) a (Nt (Bk (Sr (qu (.tuple #[.nilIface,(Bv false)]) (asserts (show ev _ _=(.iface 0 (.pointer (some j))) from Z) (QzF _ _)) (qu (Bv false) (Xt Z Z) ?_)))))))))))
 refine qu .nilIface (Xt Z Z) (Nt (WC.condF (b:=false) Z Z (Sr (qu (.tuple #[.nilIface,(Bv false)]) (asserts (show ev _ _=(.iface 0 (.pointer (some j))) from Z) (QzG _ _)) (qu (Bv false) (Xt Z Z) (qu .nilIface (Xt Z Z) (Nt (WC.condF (b:=false) Z Z (Sr (qa (GV (GErr.other j)) (Ns ?_)))))))))))
 refine qa (Bv false) (Nt (Cr (Br (Br (WQ.leaveR (false,a1) (oi h).symm (fun f=> ?_))))))
 subst f
 have h:=n
 exact Br (Dr (Rf h [[(k, .cells #[(Iv a1)] 34 (0,0))],[(m, .cells #[(pt k 0)] 117 (0,0))]] Z (Rs Z Z) g ⟨Z,Z⟩))
noncomputable def QeO (a0:GErr) (a1:Int):Option (Bool×Int):=
 (if a0.isNil=true then(some (false,a1))else((QeN a0 a1).bind fun(a,b)=>(some (a,b))))
def QnP (a0:GErr) (a1:Int) (a:Nat):(Bool×Int)→Value→IM→HL→Prop:=
 fun(p_:(Bool×Int)) (v:Value) (M':IM) (H':HL)=>match p_ with |(b,c)=>(.bool b)=v∧H'=[[(a, .cells #[(.int .i64 c)] 34 (0,0))]]
theorem Qp2 (a0:GErr) (a1:Int) (M:IM) (c:Nat) (hE:Env M) (res:(Bool×Int)) (h:QeO a0 a1=some res):
 Tri prog 68 #[(GV a0),(.iface 117 (pt c 0))] M [[(c, .cells #[(Iv a1)] 34 (0,0))]] (QnP a0 a1 c res):=by
 unfold QeO at h
 refine Te func68 Z Z ?_
 intro F ρ hρ
 refine Sr (qa (Bv false) (Nt (Cs (Sr (qM (GV a0) (hρ 0) (qu (Bv a0.isNil) (errNil underlying32 Z) (Nt (Ch h Z (fun e h=> ?_) (fun e h=> ?_)))))))))
 exact Sr (qa (Bv false) (Nt (Cr (Tr (Rf h [[(c, .cells #[(Iv a1)] 34 (0,0))]] Z (Rs Z Z) lr ⟨Z,Z⟩)))))
 refine Ck (Tc (Cs (Sr (qM (.iface 117 (pt c 0)) (hρ 1) (qu (Bv false) (ifcNil underlying20 Z) (Nt (WC.condF (b:=false) Z Z (Ck (Tc (Sr (qM (.iface 117 (pt c 0)) (hρ 1) ?_)))))))))))
 refine We (valueOf Q4B (QbK (show ev _ _=(.iface 117 (pt c 0)) from Z)) (Q97 ⟨c,0,none⟩)) Z ?_
 rintro _ _ _ - ⟨rfl,a,rfl,rfl⟩
 refine We (Al Q72 Z) Z ?_
 rintro _ _ _ - ⟨rfl,j,rfl,rfl⟩
 refine We (Sg (v:=(.agg #[(pt 1 117),(pt a 0),(Uv 150)])) (vl:=[(pt 1 117),(pt a 0),(Uv 150)]) (arr':=[(pt 1 117),(pt a 0),(Uv 150)]) Z QvY Z Z (onb Z) Z Z Z) Z ?_
 rintro _ _ _ - ⟨rfl,rfl⟩
 refine Ns (qu (.agg #[(pt 1 117),(pt a 0),(Uv 150)]) (La (cs:=[(pt 1 117),(pt a 0),(Uv 150)]) 0 Qx9 QvY Z Z Z) (We (extP Q7W (QbK (show ev _ _=(.agg #[(pt 1 117),(pt a 0),(Uv 150)]) from Z)) (Q2D _)) Z ?_))
 rintro _ _ _ - ⟨rfl,rfl,rfl⟩
 refine qa (.iface 193 (.agg #[.pointer (some ⟨1,117,none⟩)])) (Nt (Cs (Sr (qm (.iface 193 (.agg #[.pointer (some ⟨1,117,none⟩)])) (We (invE (show ev _ _=(.iface 193 (.agg #[.pointer (some ⟨1,117,none⟩)])) from Z) (QxB (pt 1 117)) Q4C inv0 QzL) Z ?_)))))
 rintro _ _ _ - ⟨rfl,rfl,rfl⟩
 refine qu (Bv false) (neqR Z Z (by decide)) (qm (Bv false) (qo 20 Z (.agg #[(pt 1 117),(pt a 0),(Uv 150)]) (La (cs:=[(pt 1 117),(pt a 0),(Uv 150)]) 0 Qx9 QvY Z Z Z) (On 20 Z Z Z (We (isNil 1 Q7X QyD Z Q7P (QbK (show ev _ _=(.agg #[(pt 1 117),(pt a 0),(Uv 150)]) from Z)) Z) Z ?_))))
 rintro _ _ _ - ⟨rfl,rfl,rfl⟩
 refine qu (Bv false) (Pf Z Z Z) (Nt (WC.condF (b:=false) Z Z (Ck (Tc (Sr (qm (.iface 193 (.agg #[.pointer (some ⟨1,117,none⟩)])) (We (invE (show ev _ _=(.iface 193 (.agg #[.pointer (some ⟨1,117,none⟩)])) from Z) (Q19 (pt 1 117)) Q70 inv0 QzI) Z ?_)))))))
 rintro _ _ _ - ⟨rfl,rfl,rfl⟩
 refine qa (.iface 193 (.agg #[.pointer (some ⟨1,34,none⟩)])) (Nt (Cs (Sr (qm (.iface 193 (.agg #[.pointer (some ⟨1,34,none⟩)])) (We (invE (show ev _ _=(.iface 193 (.agg #[.pointer (some ⟨1,34,none⟩)])) from Z) (QxB (pt 1 34)) Q4C inv0 Q1B) Z ?_)))))
 rintro _ _ _ - ⟨rfl,rfl,rfl⟩
 refine qu (Bv true) (neqR Z Z (by decide)) (qm (Bv true) (On 30 Z Z Z (qm (.iface 193 (.agg #[.pointer (some ⟨1,34,none⟩)])) (qo 30 Z (.iface 193 (.agg #[.pointer (some ⟨1,32,none⟩)])) (loadG Q7Q hE) (On 30 Z Z Z (We (invE (show ev _ _=(.iface 193 (.agg #[.pointer (some ⟨1,34,none⟩)])) from Z) (QrJ (pt 1 34)) Q71 (inv1 Z) Qp7) Z ?_))))))
 rintro _ _ _ - ⟨rfl,rfl,rfl⟩
 refine qo 30 Z (Bv (!true)) (PO.not Z) (qu (Bv (!true)) (Pt Z Z Z) (Nt (WC.condF (b:= !true) Z Z (Ck (Tc (Sr (qM (GV a0) (hρ 0) (qM (.iface 117 (pt c 0)) (hρ 1) (qu (.agg #[(pt 1 117),(pt a 0),(Uv 150)]) (La (cs:=[(pt 1 117),(pt a 0),(Uv 150)]) 0 Qx9 QvY Z Z Z) (qm (.iface 193 (.agg #[.pointer (some ⟨1,34,none⟩)])) ?_))))))))))
 obtain ⟨⟨f,g⟩,i,h⟩:=bnd h
 refine WL.f1 (Wb (We (EO.call2 Q7D (Qp1 a0 a1 _ _ _ (f,g) i) (QlT Z Z Z Z)) Z ?_))
 rintro _ k _ d ⟨_,⟨rfl,rfl⟩,rfl⟩
 exact WL.a2 (qa (Bv f) (Nt (Cr (Qa (Dr (Qa (Dr (Rf h [[(c, .cells #[(Iv g)] 34 (0,0))]] Z (Rs Z Z) d ⟨Z,Z⟩))))))))
noncomputable def QjX (a0:GErr):Option Int:=
 (if a0.isNil=true then(some (0:Int))else((QeO a0 (0:Int)).bind fun(a,b)=>(if a=true then(some b)else(some (21:Int)))))
def Qu3 (a0:GErr):Int→Value→IM→HL→Prop:=
 fun(a:Int) (v:Value) (M':IM) (H':HL)=>(.int .i64 a)=v∧H'=[]
theorem Qw2 (a0:GErr) (M:IM) (hE:Env M) (res:Int) (h:QjX a0=some res):
 Tri prog 22 #[(GV a0)] M [] (Qu3 a0 res):=by
 unfold QjX at h
 refine Te func22 Z Z ?_
 intro F ρ hρ
 refine Sr (qa (Iv 0) (Nt (Cs (Sr (qM (GV a0) (hρ 0) (qu (Bv a0.isNil) (errNil underlying32 Z) (Nt (Ch h Z (fun c h=> ?_) (fun c h=> ?_)))))))))
 exact Sr (qa (Iv 0) (Nt (Cr (Tr (Rf h [] Z (Rs Z Z) lr ⟨Z,Z⟩)))))
 refine Ck (Tc (Sr (We (Al ze34 Z) Z ?_)))
 rintro _ _ _ - ⟨rfl,f,rfl,rfl⟩
 refine Nt (Cs (Sr (qM (GV a0) (hρ 0) (qu (.iface 117 (pt f 0)) (makeInterface Q86 Z) ?_))))
 obtain ⟨⟨g,b⟩,d,h⟩:=bnd h
 refine We (Cb co68 (Qp2 a0 (0:Int) _ _ hE (g,b) d) (QaU Z Z)) Z ?_
 rintro _ i _ a ⟨_,⟨rfl,rfl⟩,rfl⟩
 refine WL.a1 (Nt (Ch h Z (fun e h=> ?_) (fun e h=> ?_)))
 exact Sr (qu (Iv b) (Lb 0 pl34 Z Z Z) (qa (Iv b) (Nt (Cr (Tr (Dr (Rf h [] Z (Rs Z Z) a ⟨Z,Z⟩)))))))
 exact Ck (Tc (Sr (qa (Iv 21) (Nt (Cr (Dr (Rf h [] Z (Rs Z Z) a ⟨Z,Z⟩)))))))
noncomputable def QdL (s_:(GErr×(List ByteArray))):Option ((GErr×(List ByteArray))⊕(List ByteArray)):=
 match s_ with
 |(b,a)=>
 (if(!b.isNil)=true then((QcZ b (⟨(⟨#[]⟩:ByteArray),(0:Int),GErr.nil⟩:QbR)).bind fun(d,c,f,e)=>(if(!d)=true then(some (inr a))else(grd (a.length+[c].length≤274877906944) (some (inl (e,a++[c]))))))else(some (inr a)))
noncomputable def QkM (a0:GErr):Option (List ByteArray):=
 ((((iter (QdL) (a0,[])).bind (fun(a:(List ByteArray))=>(some a))):Option (List ByteArray)).bind fun b=>(some b))
def QsI (a0:GErr):(List ByteArray)→Value→IM→HL→Prop:=
 fun(c:(List ByteArray)) (v:Value) (M':IM) (H':HL)=>∃ a b,a=v∧H'=[b]∧OwnS Kd.str M' a c b
theorem Qu4 (a0:GErr) (M:IM) (hE:Env M) (res:(List ByteArray)) (h:QkM a0=some res):
 Tri prog 69 #[(GV a0)] M [] (QsI a0 res):=by
 unfold QkM at h
 refine Te func69 Z Z ?_
 intro F ρ hρ
 refine Sr (qa Zs (Ns (qa Zs (Nt ?_))))
 obtain ⟨r,u,h⟩:=bnd h
 refine Jf (fun(r:(List ByteArray)) ρ' M' H'=>∃ b i,M.le M'∧i::F=H'∧ρ' 3=b∧OwnS Kd.str M' b r i) r ?_ ?_
 have h:=u
 refine Bk (WC.e0 ?_)
 obtain ⟨L,v,q⟩:=bnd h
 clear h
 refine WC.loop v (fun(p_:(GErr×(List ByteArray))) ρ' M' H'=>match p_ with |(m,n)=>∃ c j,M.le M'∧j::F=H'∧ρ' 0=(GV m)∧ρ' 3=c∧OwnS Kd.str M' c n j) ?_ ?_
 exact⟨Zs,[],lr,Z,(hρ 0),Z,(OwnS.nil _ _)⟩
 rintro ⟨m,n⟩ N O P Q h ⟨c,j,d,rfl,l,e,a⟩
 unfold QdL at h
 refine Cs (Sr (qM (GV m) l (qu (Bv (!m.isNil)) (errNotNil underlying32 Z) (Nt (Ch h Z (fun w h=> ?_) (fun w h=> ?_))))))
 refine Ck (Tc (Bk (Sr (We (Al Q4D Z) Z ?_))))
 rintro _ _ _ - ⟨rfl,s,rfl,rfl⟩
 refine Nt (Cs (Sr (qM (GV m) l (qu (.iface 116 (pt s 0)) (makeInterface Q7C Z) ?_))))
 obtain ⟨⟨x,f,E,o⟩,y,h⟩:=bnd h
 have hE:=hE.mono d
 refine We (Cb co68 (QkZ m (⟨(⟨#[]⟩:ByteArray),(0:Int),GErr.nil⟩:QbR) _ _ hE (x,f,E,o) y) (QaU Z Z)) Z ?_
 rintro _ G _ g ⟨_,⟨rfl,rfl⟩,rfl⟩
 refine WL.a1 (qu (Bv (!x)) (PO.not Z) (Nt (Ch h Z (fun z h=> ?_) (fun z h=> ?_))))
 refine WC.exit (WQ.thenE (WQ.blockM Z (WQ.leaveE n (oi h).symm (fun k=> ?_))))
 subst k
 have h:=q
 refine WQ.blockH (Dr ?_)
 obtain rfl:=oi h
 refine Tj ?_
 have a:=a.mono g
 exact⟨c,j,(d.trans g),Z,e,a⟩
 refine Ck (Tc (Sr (qM c e (qu (pt s 0) (Fa Q6D Z Z) (qu (Sv f) (Lb 0 pl9 Z Z Z) (We (buildSliceL (cl:=[(Sv f)]) underlying118 iz9 Z (Pc (Sv f) Z Z Pz) Z) Z ?_))))))
 rintro _ _ _ - ⟨rfl,A,rfl,rfl⟩
 have I:OwnS Kd.str G (.slice (some ⟨A,0,none⟩) 1 1) [f] [(A, .cells #[(Sv f)] 9 (0,0))]:=OwnS.rows (css:=[[(Sv f)]]) (Rows.cons Z Rows.nil) Z Z
 obtain ⟨B,h⟩:=QaQ h
 refine Wb ?_
 have a:=a.mono g
 refine We (append (dd:=Kd.str) (xs:=n) (ys:=[f]) underlying118 underlying118 in9 Z (appB (by decide) B) (by decide) Z Z a (I.src 1 Z)) Z ?_
 rintro C _ _ - ⟨rfl,J,rfl,K⟩
 refine qa C (Nt (Cg (qu (pt s 2) (Fa Q15 Z Z) (qu (GV o) (Lb 2 pl32 Z Z Z) (qa (GV o) (Wz (Bn (Qa (Dr (Qa (Dr ?_)))))))))))
 exact WQ.again (o,n++[f]) (oi h).symm ⟨C,J,(d.trans g),Z,Z,Z,K⟩
 refine WC.exit (WQ.thenE (WQ.leaveE n (oi h).symm (fun k=> ?_)))
 subst k
 have h:=q
 refine WQ.blockH ?_
 obtain rfl:=oi h
 exact Tj ⟨c,j,d,Z,e,a⟩
 rintro R S T ⟨b,i,t,rfl,p,D⟩
 exact Sr (qM b p (qa b (Nt (Cr (Rf h [i] Z (Rs Z Z) t ⟨b,i,Z,Z,D⟩)))))
noncomputable def QdR (a1:ByteArray) (b:(List ByteArray)) (s_:Int):Option (Int⊕(Unit⊕Unit)):=
 match s_ with
 |a=>
 (if(decide (a<(b.length:Int)))=true then(grd (0≤a∧a<b.length) (if(decide ((rd b a)=a1))=true then(some (inr (inr ())))else(some (inl (i64.wrap (a+(1:Int)))))))else(some (inr (inl ()))))
noncomputable def QjJ (a0:GErr) (a1:ByteArray):Option Bool:=
 ((((QkM a0).bind fun a=>((iter (QdR a1 a) (0:Int)).bind (Sum.elim (fun _=>(some (inl ()))) (fun _=>(((some true)).bind fun r=>some (inr r)))))):Option (Unit⊕Bool)).bind (Sum.elim (fun _=>(some false)) some))
def QrC (a0:GErr) (a1:ByteArray):Bool→Value→IM→HL→Prop:=
 fun(a:Bool) (v:Value) (M':IM) (H':HL)=>(.bool a)=v∧H'=[]
theorem QtZ (a0:GErr) (a1:ByteArray) (M:IM) (hE:Env M) (res:Bool) (h:QjJ a0 a1=some res):
 Tri prog 23 #[(GV a0),(Sv a1)] M [] (QrC a0 a1 res):=by
 unfold QjJ at h
 refine Te func23 Z Z ?_
 intro F ρ hρ
 refine Sr (qa (Bv false) (Nt ?_))
 obtain ⟨z,r,h⟩:=bnd h
 refine WC.joinE (fun(_:Unit) ρ' M' H'=>M.le M'∧F=H') z ?_ ?_
 have s:=h
 have h:=r
 refine Sr (qM (GV a0) (hρ 0) ?_)
 obtain ⟨c,t,h⟩:=bnd h
 refine We (Ca co69 (Qu4 a0 _ hE c t) (QbK Z)) Z ?_
 rintro _ A _ l ⟨_,⟨u,v,rfl,rfl,f⟩,rfl⟩
 refine WL.a1 (qu (Iv (c.length:Int)) (lenS underlying118 Z f.len) (qm (Iv 0) (Nt (Bk ?_))))
 obtain ⟨D,w,m⟩:=bnd h
 clear h
 refine WC.loop w (fun(b:Int) ρ' M' H'=>A.le M'∧v::F=H'∧ρ' 1=(Sv a1)∧ρ' 8=u∧ρ' 9=(Iv (c.length:Int))∧ρ' 10=(Iv b)) ?_ ?_
 exact⟨lr,Z,(hρ 1),Z,Z,Z⟩
 rintro b E G I J h ⟨d,rfl,g,i,j,a⟩
 unfold QdR at h
 refine Sr (qu (Bv (decide (b<(c.length:Int)))) (lss a j) (Nt (Cs (Ch h Z (fun x h=> ?_) (fun x h=> ?_)))))
 refine Ck (Tc (Cs (Bk (Sr ?_))))
 obtain ⟨k,h⟩:=QaQ h
 have f:=f.mono d
 obtain ⟨B,C,o,p,hhas35⟩:=f.at k.1 k.2
 obtain rfl:=p
 refine qu (.pointer (some B)) (indexAddr (n:=c.length) underlying118 sz9 i a k.1 k.2 o) (qu (Sv (rd c b)) (loadC 0 pl9 Z Z (QqE hhas35)) (qa (Sv (rd c b)) (Ns (qm (Sv (rd c b)) (qM (Sv a1) g (qu (Bv (decide ((rd c b)=a1))) (seql Z Z) (Nt (Ch h Z (fun y h=> ?_) (fun y h=> ?_)))))))))
 refine Sr (qa (Bv true) (Nt (Cr (Br (Tr (WQ.leaveR (inr ()) (oi h).symm (fun e=> ?_)))))))
 subst e
 have h:=(QdO m)
 refine Br (Tr ?_)
 have h:=KK.early h s
 exact Dr (Rf h [] Z (Rs Z Z) (l.trans d) ⟨Z,Z⟩)
 exact Ck (Bn (Tc (Cg (qu (Iv (i64.wrap (b+1))) (add a Z) (qm (Iv (i64.wrap (b+1))) (Wz (WQ.again (i64.wrap (b+1)) (oi h).symm ⟨d,Z,g,i,j,Z⟩)))))))
 refine WC.exit (WQ.thenE (WQ.leaveE (inl ()) (oi h).symm (fun e=> ?_)))
 subst e
 have h:=QeJ m
 exact WQ.blockH (Dr (WQ.thenFE h ⟨(l.trans d),Z⟩))
 rintro _ K L N rfl ⟨q,rfl⟩
 have h:=(Sum.elim_inl _ _ _).symm.trans h
 exact Sr (qa (Bv false) (Nt (Cr (Rf h [] Z (Rs Z Z) q ⟨Z,Z⟩))))
noncomputable def QjK (a0:GErr) (a1:QaL):Option Bool:=
 (if a0.isNil=true then(some (decide (a1.Code=(0:Int))))else((QjI a0).bind fun(a,b)=>((((QjX a0).bind fun c=>(if(decide (c=a1.Code))=true then(if b=true then(if(decide (a=a1.At))=true then((QjJ a0 a1.Op).bind fun d=>(some d))else(some false))else(some false))else(some false))):Option Bool).bind fun e=>(some e))))
def QrD (a0:GErr) (a1:QaL):Bool→Value→IM→HL→Prop:=
 fun(a:Bool) (v:Value) (M':IM) (H':HL)=>(.bool a)=v∧H'=[]
theorem Qt0 (a0:GErr) (a1:QaL) (M:IM) (hE:Env M) (res:Bool) (h:QjK a0 a1=some res):
 Tri prog 8 #[(GV a0),(a36_ a1)] M [] (QrD a0 a1 res):=by
 unfold QjK at h
 refine Te func8 Z Z ?_
 intro F ρ hρ
 refine Sr (We (box (cs:=(l36 a1).toArray) (congrArg Value.cells (asE (a36_ a1) (hρ 1)))) Z ?_)
 rintro _ _ _ - ⟨rfl,g,rfl,rfl⟩
 refine qa (Bv false) (Nt (Cs (Sr (qM (GV a0) (hρ 0) (qu (Bv a0.isNil) (errNil underlying32 Z) (Nt (Ch h Z (fun p h=> ?_) (fun p h=> ?_))))))))
 exact Sr (qu (pt g 2) (Fa QvC Z Z) (qu (Iv a1.Code) (Lb 0 pl34 Z Z Z) (qu (Bv (decide (a1.Code=0))) (eql Z Z) (qa (Bv (decide (a1.Code=0))) (Nt (Cr (Tr (Dr (Rf h [] Z (Rs Z Z) lr ⟨Z,Z⟩)))))))))
 refine Ck (Tc (Sr (qM (GV a0) (hρ 0) ?_)))
 obtain ⟨⟨d,f⟩,q,h⟩:=bnd h
 refine We (Ca co21 (QtY a0 _ hE (d,f) q) (QbK Z)) Z ?_
 rintro _ u _ i ⟨_,⟨rfl,rfl⟩,rfl⟩
 refine WL.a0 (qm (.tuple #[(Iv d),(Bv f)]) (qu (Iv d) (Xt Z Z) (qu (Bv f) (Xt Z Z) (qa (Iv d) (qa (Bv f) (Nt ?_))))))
 obtain ⟨k,r,h⟩:=bnd h
 refine Jf (fun(k:Bool) ρ' M' H'=>u.le M'∧[(g, .cells (l36 a1).toArray 36 (0,0))]::F=H'∧ρ' 4=(Bv k)) k ?_ ?_
 have h:=r
 refine WC.draw [0,1,0,4,15,31,63,127,255,511,511,1535,4095,8191,16383,32767,32767,98303,262143,524287,1048575] (.pure 0 (.pure 2 (.pure 3 (.alt 1 (.pure 4 (.pure 5 (.pure 6 (.pure 7 (.pure 8 (.pure 9 (.pure 10 (.pure 11 (.pure 12 (.pure 13 (.pure 14 (.pure 15 (.pure 16 (.pure 17 (.alt 18 (.pure 19 (.pure 20 .done)) .none))))))))))))))) .none)))) QdC (by kernel_rfl) (qt (GV a0) Z (Mv (hρ 0)) (qt (pt g 2) Z (Fa QvC Z Z) (qt (Iv a1.Code) Z (Lb 0 pl34 Z Z Z) ?_)))
 obtain ⟨l,s,h⟩:=bnd h
 have hE:=hE.mono i
 refine Ta Z (Ca co22 (Qw2 a0 _ hE l s) (QbK Z)) Z ?_ ?_
 rintro _ v _ c ⟨_,⟨rfl,rfl⟩,rfl⟩
 refine⟨(Ss Z (Lb 0 pl34 Z Z Z) Z (Ss Z (Fa QvC Z Z) Z (Sl Z))), ?_⟩
 refine WT.a0 (qt (Bv (decide (l=a1.Code))) Z (eql Z Z) (qt (Bv (decide (l=a1.Code))) Z (Mv Z) ?_))
 rcases Bi h with⟨e,h⟩ |⟨e,h⟩
 refine Tn (Bv f) 22 Z Z Z e (Mv Z) Z (qt (Bv f) Z (Pt Z e Z) (qt (Bv f) Z (Mv Z) ?_))
 rcases Bi h with⟨a,h⟩ |⟨a,h⟩
 refine Tn (Iv d) 25 Z Z Z a (Mv Z) Z (Tn (pt g 1) 25 Z Z Z a (Fa Q7M Z Z) Z (Tn (Iv a1.At) 25 Z Z Z a (Lb 0 pl3 Z Z Z) Z (Tn (Bv (decide (d=a1.At))) 25 Z Z Z a (eql Z Z) Z (qt (Bv (decide (d=a1.At))) Z (Pt Z a Z) (qt (Bv (decide (d=a1.At))) Z (Mv Z) ?_)))))
 rcases Bi h with⟨b,h⟩ |⟨b,h⟩
 refine Tn (GV a0) 31 Z Z Z b (Mv (hρ 0)) Z (Tn (pt g 0) 31 Z Z Z b (Fa Q7L Z Z) Z (Tn (Sv a1.Op) 31 Z Z Z b (Lb 0 pl9 Z Z Z) Z ?_))
 obtain ⟨m,t,h⟩:=bnd h
 have hE:=hE.mono c
 refine WT.altOn 31 Z Z Z b (Ca co23 (QtZ a0 a1.Op _ hE m t) (QaU Z Z)) Z ?_ ?_
 rintro _ w _ n ⟨_,⟨rfl,rfl⟩,rfl⟩
 refine⟨(Sl Z), ?_⟩
 refine WT.a0 (qt (Bv m) Z (Pt Z b Z) (qt (Bv m) Z (Ag Z) (Ti ?_)))
 obtain rfl:=oi h
 exact Tj ⟨(c.trans n),Z,Z⟩
 exact Tz
 refine Tf 31 Z Z Z b Z (Tf 31 Z Z Z b Z (Tf 31 Z Z Z b Z (Tg 31 Z Z Z b Z ⟨(Sl Z), ?_⟩ ?_)))
 refine qt (Bv false) Z (Pf Z b Z) (qt (Bv false) Z (Ag Z) (Ti ?_))
 obtain rfl:=oi h
 exact Tj ⟨c,Z,Z⟩
 exact Tz
 refine Tf 25 Z Z Z a Z (Tf 25 Z Z Z a Z (Tf 25 Z Z Z a Z (Tf 25 Z Z Z a Z (qt (Bv false) Z (Pf Z a Z) (qt (Bv false) Z (Mv Z) (Tf 31 Z Z Z Z Z (Tf 31 Z Z Z Z Z (Tf 31 Z Z Z Z Z (Tg 31 Z Z Z Z Z ⟨(Sl Z), ?_⟩ ?_)))))))))
 refine qt (Bv false) Z (Pf Z Z Z) (qt (Bv false) Z (Ag Z) (Ti ?_))
 obtain rfl:=oi h
 exact Tj ⟨c,Z,Z⟩
 exact Tz
 refine Tf 22 Z Z Z e Z (qt (Bv false) Z (Pf Z e Z) (qt (Bv false) Z (Mv Z) (Tf 25 Z Z Z Z Z (Tf 25 Z Z Z Z Z (Tf 25 Z Z Z Z Z (Tf 25 Z Z Z Z Z (qt (Bv false) Z (Pf Z Z Z) (qt (Bv false) Z (Mv Z) (Tf 31 Z Z Z Z Z (Tf 31 Z Z Z Z Z (Tf 31 Z Z Z Z Z ?_)))))))))))
 refine Tg 31 Z Z Z Z Z ⟨(Sl Z), ?_⟩ ?_
 refine qt (Bv false) Z (Pf Z Z Z) (qt (Bv false) Z (Ag Z) (Ti ?_))
 obtain rfl:=oi h
 exact Tj ⟨c,Z,Z⟩
 exact Tz
 exact Tz
 rintro x y z ⟨o,rfl,j⟩
 exact Cr (Dr (Rf h [] Z (Rs Z j) (i.trans o) ⟨Z,Z⟩))
noncomputable def QkN (a0:Int):Option Int:=
 (if(decide (a0<(64:Int)))=true then(some (1:Int))else(if(decide (a0<(16384:Int)))=true then(some (2:Int))else(if(decide (a0<(1073741824:Int)))=true then(some (4:Int))else(some (8:Int)))))
def QsJ (a0:Int):Int→Value→IM→HL→Prop:=
 fun(a:Int) (v:Value) (M':IM) (H':HL)=>(.int .i64 a)=v∧H'=[]
theorem Qu5 (a0:Int) (M:IM) (res:Int) (h:QkN a0=some res):
 Tri prog 117 #[(Uv a0)] M [] (QsJ a0 res):=by
 unfold QkN at h
 refine Te func117 Z Z ?_
 intro F ρ hρ
 refine Sr (qa (Iv 0) (Nt (Cs (Sr (qM (Uv a0) (hρ 0) (qu (Bv (decide (a0<64))) (lss Z Z) (Nt (Ch h Z (fun a h=> ?_) (fun a h=> ?_)))))))))
 exact Sr (qa (Iv 1) (Nt (Cr (Tr (Rf h [] Z (Rs Z Z) lr ⟨Z,Z⟩)))))
 refine Ck (Tc (Cs (Sr (qM (Uv a0) (hρ 0) (qu (Bv (decide (a0<16384))) (lss Z Z) (Nt (Ch h Z (fun b h=> ?_) (fun b h=> ?_))))))))
 exact Sr (qa (Iv 2) (Nt (Cr (Tr (Rf h [] Z (Rs Z Z) lr ⟨Z,Z⟩)))))
 refine Ck (Tc (Cs (Sr (qM (Uv a0) (hρ 0) (qu (Bv (decide (a0<1073741824))) (lss Z Z) (Nt (Ch h Z (fun c h=> ?_) (fun c h=> ?_))))))))
 exact Sr (qa (Iv 4) (Nt (Cr (Tr (Rf h [] Z (Rs Z Z) lr ⟨Z,Z⟩)))))
 exact Ck (Tc (Sr (qa (Iv 8) (Nt (Cr (Rf h [] Z (Rs Z Z) lr ⟨Z,Z⟩))))))
noncomputable def QgR (s_:(Int×(List Int)×Int)):Option ((Int×(List Int)×Int)⊕(List Int)):=
 match s_ with
 |(c,b,a)=>
 (if(decide ((0:Int)≤a))=true then(grd (0≤a∧a<b.length) (some (inl (u64.wrap (c.tdiv (256:Int)),b.set (a).toNat (u8.wrap (c.tmod (256:Int))),i64.wrap (a - (1:Int))))))else(some (inr b)))
noncomputable def QpC (c:Int) (s_:(Int×Int)):Option ((Int×Int)⊕Int):=
 match s_ with
 |(a,b)=>
 (if(decide (b<c))=true then(some (inl (u8.wrap (a+(64:Int)),i64.wrap (b*(2:Int)))))else(some (inr a)))
noncomputable def QlI (a0:Int):Option (List Int):=
 (((if(decide ((4611686018427387903:Int)<a0))=true then(some (4611686018427387903:Int))else(some a0)):Option Int).bind fun c=>((QkN c).bind fun a=>(grd (0≤a∧a≤274877906944) ((((iter (QgR) (c,List.replicate (a).toNat (0:Int),i64.wrap (a - (1:Int)))).bind (fun(d:(List Int))=>(some d))):Option (List Int)).bind fun b=>((((iter (QpC a) ((0:Int),(1:Int))).bind (fun(e:Int)=>(some e))):Option Int).bind fun f=>(grd (0≤(0:Int)∧(0:Int)<b.length) (grd (0≤(0:Int)∧(0:Int)<b.length) (some (b.set ((0:Int)).toNat (u8.wrap ((rd b (0:Int))+f)))))))))))
def Qt1 (a0:Int):(List Int)→Value→IM→HL→Prop:=
 fun(c:(List Int)) (v:Value) (M':IM) (H':HL)=>∃ a b,a=v∧H'=[b]∧OwnS (Kd.int .u8) M' a c b
theorem QvX (a0:Int) (M:IM) (res:(List Int)) (h:QlI a0=some res):
 Tri prog 84 #[(Uv a0)] M [] (Qt1 a0 res):=by
 unfold QlI at h
 refine Te func84 Z Z ?_
 intro F ρ hρ
 refine Sr (qa Zs (Ns (qM (Uv a0) (hρ 0) (qa (Uv a0) (Nt ?_)))))
 obtain ⟨C,a2,h⟩:=bnd h
 refine Jf (fun(C:Int) ρ' M' H'=>M.le M'∧F=H'∧ρ' 3=(Uv C)) C ?_ ?_
 have h:=a2
 refine Sr (qm (Uv a0) (qu (Bv (decide ((4611686018427387903:Int)<a0))) (gtr Z Z) (Nt (Ch h Z (fun a3 h=> ?_) (fun a3 h=> ?_)))))
 refine Cg (qa (Uv 4611686018427387903) (Wz ?_))
 obtain rfl:=oi h
 exact Tj ⟨lr,Z,Z⟩
 refine Ck ?_
 obtain rfl:=oi h
 exact Tj ⟨lr,Z,Z⟩
 rintro c8 c9 d0 ⟨R,rfl,s⟩
 refine Sr (qM (Uv C) s ?_)
 obtain ⟨c,a4,h⟩:=bnd h
 refine We (Ca Q9F (Qu5 C _ c a4) (QbK Z)) Z ?_
 rintro _ a5 _ S ⟨_,⟨rfl,rfl⟩,rfl⟩
 refine WL.a0 (qa (Iv c) (Ns (qm (Iv c) ?_)))
 obtain ⟨D,h⟩:=QaQ h
 refine We (makeSlice (dd:=(Kd.int .u8)) underlying38 in5 Z Z Z Z Z D.1 (by decide) (Q84 Z D.1 D.2)) Z ?_
 rintro a6 _ _ - ⟨rfl,b7,rfl,b8⟩
 refine qa a6 (Nt ?_)
 obtain ⟨m,a7,h⟩:=bnd h
 refine Jf (fun(m:(List Int)) ρ' M' H'=>∃ b o,a5.le M'∧o::F=H'∧ρ' 4=(Iv c)∧ρ' 5=b∧OwnS (Kd.int .u8) M' b m o) m ?_ ?_
 have h:=a7
 refine Sr (qm (Iv c) (qu (Iv (i64.wrap (c - 1))) (PO.sub Z Z) (qa (Iv (i64.wrap (c - 1))) (Nt (Bk ?_)))))
 obtain ⟨d1,a8,a9⟩:=bnd h
 clear h
 refine WC.loop a8 (fun(p_:(Int×(List Int)×Int)) ρ' M' H'=>match p_ with |(d,E,e)=>∃ f t,a5.le M'∧t::F=H'∧ρ' 3=(Uv d)∧ρ' 4=(Iv c)∧ρ' 5=f∧ρ' 6=(Iv e)∧OwnS (Kd.int .u8) M' f E t) ?_ ?_
 exact⟨a6,b7,lr,Z,s,Z,Z,Z,b8⟩
 rintro ⟨d,E,e⟩ d2 d3 d4 d5 h ⟨f,t,G,rfl,u,v,j,k,I⟩
 unfold QgR at h
 refine Cs (Sr (qM (Iv e) k (qu (Bv (decide ((0:Int)≤e))) (geq Z Z) (Nt (Ch h Z (fun b0 h=> ?_) (fun b0 h=> ?_))))))
 refine Ck (Tc (Cs (Bk (Sr (qM f j (qM (Iv e) k (qM (Uv d) u (qu (Uv (d.tmod (256:Int))) (rem Z Z (by decide)) (qu (Yv (u8.wrap (d.tmod (256:Int)))) (conv Qn0 underlying5 Z) ?_)))))))))
 obtain ⟨g,h⟩:=QaQ h
 obtain ⟨b9,c5,J,T,hhas46⟩:=I.at g.1 g.2
 obtain rfl:=T
 refine qu (.pointer (some b9)) (indexAddr (n:=E.length) underlying38 sz5 Z Z g.1 g.2 J) (We (storeOwn (dd:=(Kd.int .u8)) (a:=(u8.wrap (d.tmod (256:Int)))) sz5 Z J Z g.1 g.2 Z I Z) Z ?_)
 rintro _ _ _ - ⟨rfl,c0,rfl,c1⟩
 refine Nt (Cg (qM (Uv d) u (qu (Uv (u64.wrap (d.tdiv (256:Int)))) (quo Z Z (by decide)) (qa (Uv (u64.wrap (d.tdiv (256:Int)))) (Wz (Bn (Tc (Cg (qM (Iv e) k (qu (Iv (i64.wrap (e - 1))) (PO.sub Z Z) (qa (Iv (i64.wrap (e - 1))) ?_)))))))))))
 exact Wz (WQ.again (u64.wrap (d.tdiv (256:Int)),E.set (e).toNat (u8.wrap (d.tmod (256:Int))),i64.wrap (e - 1)) (oi h).symm ⟨f,c0,G,Z,Z,v,j,Z,c1⟩)
 refine WC.exit (WQ.thenE (WQ.leaveE E (oi h).symm (fun U=> ?_)))
 subst U
 have h:=a9
 refine WQ.blockH ?_
 obtain rfl:=oi h
 exact Tj ⟨f,t,G,Z,v,j,I⟩
 rintro d6 b1 d7 ⟨b,o,V,rfl,O,P,p⟩
 refine Sr (qa (Yv 0) (Nt ?_))
 obtain ⟨B,b2,h⟩:=bnd h
 refine Jf (fun(B:Int) ρ' M' H'=>b1.le M'∧o::F=H'∧ρ' 5=b∧ρ' 7=(Yv B)) B ?_ ?_
 have h:=b2
 refine Sr (qa (Iv 1) (Nt (Bk ?_)))
 obtain ⟨d8,b3,b4⟩:=bnd h
 clear h
 refine WC.loop b3 (fun(p_:(Int×Int)) ρ' M' H'=>match p_ with |(r,q)=>b1.le M'∧o::F=H'∧ρ' 4=(Iv c)∧ρ' 5=b∧ρ' 7=(Yv r)∧ρ' 8=(Iv q)) ?_ ?_
 exact⟨lr,Z,O,P,Z,Z⟩
 rintro ⟨r,q⟩ d9 e0 e1 e2 h ⟨K,rfl,w,x,y,z⟩
 unfold QpC at h
 refine Cs (Sr (qM (Iv q) z (qM (Iv c) w (qu (Bv (decide (q<c))) (lss Z Z) (Nt (Ch h Z (fun b5 h=> ?_) (fun b5 h=> ?_)))))))
 refine Ck (Tc (Cs (Bk (Cg (qM (Yv r) y (qu (Yv (u8.wrap (r+64))) (add Z Z) (qa (Yv (u8.wrap (r+64))) (Wz (Bn (Tc (Cg ?_)))))))))))
 exact qM (Iv q) z (qu (Iv (i64.wrap (q*(2:Int)))) (mul Z Z) (qa (Iv (i64.wrap (q*(2:Int)))) (Wz (WQ.again (u8.wrap (r+64),i64.wrap (q*(2:Int))) (oi h).symm ⟨K,Z,w,x,Z,Z⟩))))
 refine WC.exit (WQ.thenE (WQ.leaveE r (oi h).symm (fun W=> ?_)))
 subst W
 have h:=b4
 refine WQ.blockH ?_
 obtain rfl:=oi h
 exact Tj ⟨K,Z,x,y⟩
 rintro e3 e4 e5 ⟨L,rfl,l,Q⟩
 refine Sr (qM b l (qM b l ?_))
 obtain ⟨A,h⟩:=QaQ h
 have p:=p.mono L
 obtain ⟨c2,c6,X,Y,hhas62⟩:=p.at A.1 A.2
 obtain rfl:=Y
 refine qu (.pointer (some c2)) (indexAddr (n:=m.length) underlying38 sz5 Z Z A.1 A.2 X) (qu (Yv (rd m (0:Int))) (loadC 0 pl5 Z Z (QqE hhas62)) (qM (Yv B) Q (qu (Yv (u8.wrap ((rd m (0:Int))+B))) (add Z Z) ?_)))
 obtain ⟨i,h⟩:=QaQ h
 obtain ⟨c3,c7,N,a1,hhas69⟩:=p.at i.1 i.2
 obtain rfl:=a1
 refine qu (.pointer (some c3)) (indexAddr (n:=m.length) underlying38 sz5 Z Z i.1 i.2 N) (We (storeOwn (dd:=(Kd.int .u8)) (a:=(u8.wrap ((rd m (0:Int))+B))) sz5 Z N Z i.1 i.2 Z p Z) Z ?_)
 rintro _ _ _ - ⟨rfl,b6,rfl,c4⟩
 exact Ns (qM b l (qa b (Nt (Cr (Rf h [b6] Z (Rs Z Z) (((R.trans S).trans V).trans L) ⟨b,b6,Z,Z,c4⟩)))))
noncomputable def Qb0 (a0:Int):Option (List Int):=
 (if(decide (a0<(0:Int)))=true then(some [(0:Int)])else((QlI (u64.wrap a0)).bind fun a=>(some a)))
def Qt2 (a0:Int):(List Int)→Value→IM→HL→Prop:=
 fun(c:(List Int)) (v:Value) (M':IM) (H':HL)=>∃ a b,a=v∧H'=[b]∧OwnS (Kd.int .u8) M' a c b
theorem QbQ (a0:Int) (M:IM) (res:(List Int)) (h:Qb0 a0=some res):
 Tri prog 56 #[(Iv a0)] M [] (Qt2 a0 res):=by
 unfold Qb0 at h
 refine Te func56 Z Z ?_
 intro F ρ hρ
 refine Sr (qa Zs (Nt (Cs (Sr (qM (Iv a0) (hρ 0) (qu (Bv (decide (a0<0))) (lss Z Z) (Nt (Ch h Z (fun e h=> ?_) (fun e h=> ?_)))))))))
 refine Sr (We (buildSliceL (cl:=[(Yv 0)]) underlying38 iz5 Z (Pc (Yv 0) Z Z Pz) Z) Z ?_)
 rintro _ _ _ - ⟨rfl,a,rfl,rfl⟩
 have i:OwnS (Kd.int .u8) M (.slice (some ⟨a,0,none⟩) 1 1) [(0:Int)] [(a, .cells #[(Yv 0)] 5 (0,0))]:=OwnS.rows (css:=[[(Yv 0)]]) (Rows.cons Z Rows.nil) Z Z
 exact qa (.slice (some ⟨a,0,none⟩) 1 1) (Nt (Cr (Tr (Rf h [[(a, .cells #[(Yv 0)] 5 (0,0))]] Z (Rs Z Z) lr ⟨(.slice (some ⟨a,0,none⟩) 1 1),[(a, .cells #[(Yv 0)] 5 (0,0))],Z,Z,i⟩))))
 refine Ck (Tc (Sr (qM (Iv a0) (hρ 0) (qu (Uv (u64.wrap a0)) (conv us3 underlying128 Z) ?_))))
 obtain ⟨j,f,h⟩:=bnd h
 refine We (Ca co84 (QvX (u64.wrap a0) _ j f) (QbK Z)) Z ?_
 rintro _ k _ d ⟨_,⟨b,c,rfl,rfl,g⟩,rfl⟩
 exact WL.a1 (qa b (Nt (Cr (Rf h [c] Z (Rs Z Z) d ⟨b,c,Z,Z,g⟩))))
noncomputable def QfU (a0:(List Int)):Option (List Int):=
 ((Qb0 (a0.length:Int)).bind fun a=>(grd (a.length+a0.length≤274877906944) (some (a++a0))))
def QsK (a0:(List Int)) (d:Value):(List Int)→Value→IM→HL→Prop:=
 fun(c:(List Int)) (v:Value) (M':IM) (H':HL)=>∃ a b,a=v∧H'=[b]∧OwnS (Kd.int .u8) M' a c b
theorem QjL (a0:(List Int)) (M:IM) (b:Value) (j:RS (Kd.int .u8) M b a0) (res:(List Int)) (h:QfU a0=some res):
 Tri prog 57 #[b] M [] (QsK a0 b res):=by
 unfold QfU at h
 refine Te func57 Z Z ?_
 intro F ρ hρ
 refine Sr (qa Zs (Ns (qM b (hρ 0) (qu (Iv (a0.length:Int)) (lenS underlying38 Z j.len) ?_))))
 obtain ⟨c,d,h⟩:=bnd h
 refine We (Ca co56 (QbQ (a0.length:Int) _ c d) (QbK Z)) Z ?_
 rintro _ n _ a ⟨_,⟨l,m,rfl,rfl,e⟩,rfl⟩
 refine WL.a1 (qM b (hρ 0) ?_)
 obtain ⟨f,h⟩:=QaQ h
 have j:=j.mono a
 refine We (append (dd:=(Kd.int .u8)) (xs:=c) (ys:=a0) underlying38 underlying38 in5 Z (appB (by decide) f) (by decide) Z Z e (j.src _)) Z ?_
 rintro g _ _ - ⟨rfl,i,rfl,k⟩
 exact qa g (Nt (Cr (Rf h [i] Z (Rs Z Z) a ⟨g,i,Z,Z,k⟩)))
noncomputable def QkO (a0:Bool):Option (List Int):=
 (if a0=true then(some [(1:Int)])else(some [(0:Int)]))
def QsL (a0:Bool):(List Int)→Value→IM→HL→Prop:=
 fun(c:(List Int)) (v:Value) (M':IM) (H':HL)=>∃ a b,a=v∧H'=[b]∧OwnS (Kd.int .u8) M' a c b
theorem QnQ (a0:Bool) (M:IM) (res:(List Int)) (h:QkO a0=some res):
 Tri prog 58 #[(Bv a0)] M [] (QsL a0 res):=by
 unfold QkO at h
 refine Te func58 Z Z ?_
 intro F ρ hρ
 refine Sr (qa Zs (Nt (Cs (Sr (qM (Bv a0) (hρ 0) (Nt (Ch h Z (fun c h=> ?_) (fun c h=> ?_))))))))
 refine Sr (We (buildSliceL (cl:=[(Yv 1)]) underlying38 iz5 Z (Pc (Yv 1) Z Z Pz) Z) Z ?_)
 rintro _ _ _ - ⟨rfl,a,rfl,rfl⟩
 have d:OwnS (Kd.int .u8) M (.slice (some ⟨a,0,none⟩) 1 1) [(1:Int)] [(a, .cells #[(Yv 1)] 5 (0,0))]:=OwnS.rows (css:=[[(Yv 1)]]) (Rows.cons Z Rows.nil) Z Z
 exact qa (.slice (some ⟨a,0,none⟩) 1 1) (Nt (Cr (Tr (Rf h [[(a, .cells #[(Yv 1)] 5 (0,0))]] Z (Rs Z Z) lr ⟨(.slice (some ⟨a,0,none⟩) 1 1),[(a, .cells #[(Yv 1)] 5 (0,0))],Z,Z,d⟩))))
 refine Ck (Tc (Sr (We (buildSliceL (cl:=[(Yv 0)]) underlying38 iz5 Z (Pc (Yv 0) Z Z Pz) Z) Z ?_)))
 rintro _ _ _ - ⟨rfl,b,rfl,rfl⟩
 have e:OwnS (Kd.int .u8) M (.slice (some ⟨b,0,none⟩) 1 1) [(0:Int)] [(b, .cells #[(Yv 0)] 5 (0,0))]:=OwnS.rows (css:=[[(Yv 0)]]) (Rows.cons Z Rows.nil) Z Z
 exact qa (.slice (some ⟨b,0,none⟩) 1 1) (Nt (Cr (Rf h [[(b, .cells #[(Yv 0)] 5 (0,0))]] Z (Rs Z Z) lr ⟨(.slice (some ⟨b,0,none⟩) 1 1),[(b, .cells #[(Yv 0)] 5 (0,0))],Z,Z,e⟩)))
noncomputable def QgS (a0:(List Int)) (s_:((List Int)×Int)):Option (((List Int)×Int)⊕(List Int)):=
 match s_ with
 |(b,a)=>
 (if(decide (a<(a0.length:Int)))=true then(grd (0≤a∧a<a0.length) ((Qb0 (rd a0 a)).bind fun c=>(grd (b.length+c.length≤274877906944) (some (inl (b++c,i64.wrap (a+(1:Int))))))))else(some (inr b)))
noncomputable def QhP (a0:(List Int)):Option (List Int):=
 ((Qb0 (a0.length:Int)).bind fun a=>((((iter (QgS a0) (a,(0:Int))).bind (fun(b:(List Int))=>(some b))):Option (List Int)).bind fun c=>(some c)))
def Qt3 (a0:(List Int)) (d:Value):(List Int)→Value→IM→HL→Prop:=
 fun(c:(List Int)) (v:Value) (M':IM) (H':HL)=>∃ a b,a=v∧H'=[b]∧OwnS (Kd.int .u8) M' a c b
theorem Qj3 (a0:(List Int)) (M:IM) (s:Value) (z:RS (Kd.int .i64) M s a0) (res:(List Int)) (h:QhP a0=some res):
 Tri prog 118 #[s] M [] (Qt3 a0 s res):=by
 unfold QhP at h
 refine Te func118 Z Z ?_
 intro F ρ hρ
 refine Sr (qa Zs (Ns (qM s (hρ 0) (qu (Iv (a0.length:Int)) (lenS underlying56 Z z.len) ?_))))
 obtain ⟨Q,A,h⟩:=bnd h
 refine We (Ca co56 (QbQ (a0.length:Int) _ Q A) (QbK Z)) Z ?_
 rintro _ B _ m ⟨_,⟨r,C,rfl,rfl,D⟩,rfl⟩
 refine WL.a1 (qa r (Nt ?_))
 obtain ⟨t,E,h⟩:=bnd h
 refine Jf (fun(t:(List Int)) ρ' M' H'=>∃ b e,B.le M'∧e::F=H'∧ρ' 3=b∧OwnS (Kd.int .u8) M' b t e) t ?_ ?_
 have h:=E
 refine Sr (qa (Iv 0) (Nt (Bk ?_)))
 obtain ⟨X,G,I⟩:=bnd h
 clear h
 refine WC.loop G (fun(p_:((List Int)×Int)) ρ' M' H'=>match p_ with |(o,a)=>∃ f i,B.le M'∧i::F=H'∧ρ' 0=s∧ρ' 3=f∧ρ' 4=(Iv a)∧OwnS (Kd.int .u8) M' f o i) ?_ ?_
 exact⟨r,C,lr,Z,(hρ 0),Z,Z,D⟩
 rintro ⟨o,a⟩ Y a2 a3 a4 h ⟨f,i,g,rfl,c,j,d,k⟩
 unfold QgS at h
 refine Cs (Sr (qM (Iv a) d (qM s c ?_)))
 have z:=z.mono (m.trans g)
 refine qu (Iv (a0.length:Int)) (lenS underlying56 Z z.len) (qu (Bv (decide (a<(a0.length:Int)))) (lss Z Z) (Nt (Ch h Z (fun J h=> ?_) (fun J h=> ?_))))
 refine Ck (Tc (Cs (Bk (Cg (qM f j (qM s c (qM (Iv a) d ?_)))))))
 obtain ⟨l,h⟩:=QaQ h
 obtain ⟨R,U,u,v,hhas38⟩:=z.at l.1 l.2 (by decide)
 obtain rfl:=v
 refine qu (.pointer (some R)) (indexAddr (n:=a0.length) underlying56 sz3 Z Z l.1 l.2 u) (qu (Iv (rd a0 a)) (loadM pl3 Z (IM.has0 hhas38)) ?_)
 obtain ⟨w,K,h⟩:=bnd h
 refine We (Ca co56 (QbQ (rd a0 a) _ w K) (QbK Z)) Z ?_
 rintro _ a5 _ p ⟨_,⟨V,W,rfl,rfl,L⟩,rfl⟩
 refine WL.a1 ?_
 obtain ⟨N,h⟩:=QaQ h
 refine WL.f1 ?_
 have k:=k.mono p
 refine We (append (dd:=(Kd.int .u8)) (xs:=o) (ys:=w) underlying38 underlying38 in5 Z (appB (by decide) N) (by decide) Z Z k (L.src 1 Z)) Z ?_
 rintro O _ _ - ⟨rfl,S,rfl,T⟩
 refine qa O (Wz (Bn (Tc (Cg (qM (Iv a) d (qu (Iv (i64.wrap (a+1))) (add Z Z) (qa (Iv (i64.wrap (a+1))) (Wz (Qa (Dr (WQ.again (o++w,i64.wrap (a+1)) (oi h).symm ?_)))))))))))
 exact⟨O,S,(g.trans p),Z,c,Z,Z,T⟩
 refine WC.exit (WQ.thenE (WQ.leaveE o (oi h).symm (fun x=> ?_)))
 subst x
 have h:=I
 refine WQ.blockH ?_
 obtain rfl:=oi h
 exact Tj ⟨f,i,g,Z,j,k⟩
 rintro a6 a7 a8 ⟨b,e,y,rfl,q,P⟩
 exact Sr (qM b q (qa b (Nt (Cr (Rf h [e] Z (Rs Z Z) (m.trans y) ⟨b,e,Z,Z,P⟩)))))
noncomputable def QfM (a0:QaH):Option (List Int):=
 ((QhP a0.Ids).bind fun a=>((QhP a0.Isr).bind fun b=>(grd (a.length+b.length≤274877906944) ((Qb0 a0.Leader).bind fun c=>(grd ((a++b).length+c.length≤274877906944) ((Qb0 a0.Epoch).bind fun d=>(grd (((a++b)++c).length+d.length≤274877906944) ((QhP a0.Add).bind fun e=>(grd ((((a++b)++c)++d).length+e.length≤274877906944) ((QhP a0.Drop).bind fun f=>(grd (((((a++b)++c)++d)++e).length+f.length≤274877906944) (some (((((a++b)++c)++d)++e)++f)))))))))))))
def Qm8 (a0:QaH) (c d e f:Value):(List Int)→Value→IM→HL→Prop:=
 fun(g:(List Int)) (v:Value) (M':IM) (H':HL)=>∃ a b,a=v∧H'=[b]∧OwnS (Kd.int .u8) M' a g b
theorem Qo2 (a0:QaH) (M:IM) (a b c d:Value) (B:RS (Kd.int .i64) M a a0.Ids) (j:RS (Kd.int .i64) M b a0.Isr) (k:RS (Kd.int .i64) M c a0.Add) (l:RS (Kd.int .i64) M d a0.Drop) (res:(List Int)) (h:QfM a0=some res):
 Tri prog 85 #[(a58_ a0 a b c d)] M [] (Qm8 a0 a b c d res):=by
 unfold QfM at h
 refine Te func85 Z Z ?_
 intro F ρ hρ
 refine Sr (We (box (cs:=(l58 a0 a b c d).toArray) (congrArg Value.cells (asE (a58_ a0 a b c d) (hρ 0)))) Z ?_)
 rintro _ _ _ - ⟨rfl,f,rfl,rfl⟩
 refine qa Zs (Ns (qu (pt f 0) (Fa QiE Z Z) (qu a (Lb 0 pl56 Z Z Z) ?_)))
 obtain ⟨g,C,h⟩:=bnd h
 refine We (Ca Q33 (Qj3 a0.Ids _ _ B g C) (QbK Z)) Z ?_
 rintro _ b7 _ m ⟨_,⟨u,a6,rfl,rfl,n⟩,rfl⟩
 refine WL.a1 (qa u (Ns (qm u (qu (pt f 1) (Fa QlJ Z Z) (qu b (Lb 1 pl56 Z Z Z) ?_)))))
 obtain ⟨i,D,h⟩:=bnd h
 have j:=j.mono m
 refine We (Ca Q33 (Qj3 a0.Isr _ _ j i D) (QbK Z)) Z ?_
 rintro _ b8 _ o ⟨_,⟨a7,a8,rfl,rfl,E⟩,rfl⟩
 refine WL.a1 ?_
 obtain ⟨G,h⟩:=QaQ h
 refine WL.f1 ?_
 have n:=n.mono o
 refine We (append (dd:=(Kd.int .u8)) (xs:=g) (ys:=i) underlying38 underlying38 in5 Z (appB (by decide) G) (by decide) Z Z n (E.src 1 Z)) Z ?_
 rintro I _ _ - ⟨rfl,b9,rfl,v⟩
 refine qa I (Ns (qm I (qu (pt f 2) (Fa Qk1 Z Z) (qu (Iv a0.Leader) (Lb 2 pl3 Z Z Z) ?_))))
 obtain ⟨p,J,h⟩:=bnd h
 refine We (Ca co56 (QbQ a0.Leader _ p J) (QbK Z)) Z ?_
 rintro _ c0 _ q ⟨_,⟨a9,b0,rfl,rfl,K⟩,rfl⟩
 refine WL.a1 ?_
 obtain ⟨L,h⟩:=QaQ h
 refine WL.f1 ?_
 have v:=v.mono q
 refine We (append (dd:=(Kd.int .u8)) (xs:=g++i) (ys:=p) underlying38 underlying38 in5 Z (appB (by decide) L) (by decide) Z Z v (K.src 1 Z)) Z ?_
 rintro N _ _ - ⟨rfl,c1,rfl,w⟩
 refine qa N (Ns (qm N (qu (pt f 3) (Fa Ql6 Z Z) (qu (Iv a0.Epoch) (Lb 3 pl3 Z Z Z) ?_))))
 obtain ⟨t,O,h⟩:=bnd h
 refine We (Ca co56 (QbQ a0.Epoch _ t O) (QbK Z)) Z ?_
 rintro _ c2 _ r ⟨_,⟨b1,b2,rfl,rfl,P⟩,rfl⟩
 have x:=((m.trans o).trans q).trans r
 refine WL.a1 ?_
 obtain ⟨Q,h⟩:=QaQ h
 refine WL.f1 ?_
 have w:=w.mono r
 refine We (append (dd:=(Kd.int .u8)) (xs:=(g++i)++p) (ys:=t) underlying38 underlying38 in5 Z (appB (by decide) Q) (by decide) Z Z w (P.src 1 Z)) Z ?_
 rintro R _ _ - ⟨rfl,c3,rfl,y⟩
 refine qa R (Ns (qm R (qu (pt f 4) (Fa QmT Z Z) (qu c (Lb 4 pl56 Z Z Z) ?_))))
 obtain ⟨z,S,h⟩:=bnd h
 have k:=k.mono x
 refine We (Ca Q33 (Qj3 a0.Add _ _ k z S) (QbK Z)) Z ?_
 rintro _ c4 _ e ⟨_,⟨b3,b4,rfl,rfl,T⟩,rfl⟩
 refine WL.a1 ?_
 obtain ⟨U,h⟩:=QaQ h
 refine WL.f1 ?_
 have y:=y.mono e
 refine We (append (dd:=(Kd.int .u8)) (xs:=((g++i)++p)++t) (ys:=z) underlying38 underlying38 in5 Z (appB (by decide) U) (by decide) Z Z y (T.src 1 Z)) Z ?_
 rintro V _ _ - ⟨rfl,c5,rfl,A⟩
 refine qa V (Ns (qm V (qu (pt f 5) (Fa Ql7 Z Z) (qu d (Lb 5 pl56 Z Z Z) ?_))))
 obtain ⟨W,X,h⟩:=bnd h
 have l:=l.mono (x.trans e)
 refine We (Ca Q33 (Qj3 a0.Drop _ _ l W X) (QbK Z)) Z ?_
 rintro _ c6 _ s ⟨_,⟨b5,b6,rfl,rfl,Y⟩,rfl⟩
 refine WL.a1 ?_
 obtain ⟨a2,h⟩:=QaQ h
 refine WL.f1 ?_
 have A:=A.mono s
 refine We (append (dd:=(Kd.int .u8)) (xs:=(((g++i)++p)++t)++z) (ys:=W) underlying38 underlying38 in5 Z (appB (by decide) a2) (by decide) Z Z A (Y.src 1 Z)) Z ?_
 rintro a3 _ _ - ⟨rfl,a4,rfl,a5⟩
 refine qa a3 (Nt (Cr (Qa (Dr (Qa (Dr (Qa (Dr (Qa (Dr (Qa ?_)))))))))))
 exact Dr (Qa (Dr (Rf h [a4] Z (Rs Z Z) ((x.trans e).trans s) ⟨a3,a4,Z,Z,a5⟩)))
noncomputable def QdM (a0:QaC) (s_:((List Int)×Int)):Option (((List Int)×Int)⊕(List Int)):=
 match s_ with
 |(b,a)=>
 (if(decide (a<(a0.Parts.length:Int)))=true then(grd (0≤a∧a<a0.Parts.length) ((QfM (rd a0.Parts a)).bind fun c=>(grd (b.length+c.length≤274877906944) (some (inl (b++c,i64.wrap (a+(1:Int))))))))else(some (inr b)))
noncomputable def Qe2 (a0:QaC):Option (List Int):=
 ((Qb0 a0.Id).bind fun a=>((QfU (bytesOf a0.Name)).bind fun b=>(grd (a.length+b.length≤274877906944) ((Qb0 (a0.Parts.length:Int)).bind fun c=>(grd ((a++b).length+c.length≤274877906944) ((((iter (QdM a0) ((a++b)++c,(0:Int))).bind (fun(d:(List Int))=>(some d))):Option (List Int)).bind fun e=>(some e)))))))
def QmJ (a0:QaC) (c:Value):(List Int)→Value→IM→HL→Prop:=
 fun(d:(List Int)) (v:Value) (M':IM) (H':HL)=>∃ a b,a=v∧H'=[b]∧OwnS (Kd.int .u8) M' a d b
theorem QnR (a0:QaC) (M:IM) (a:Value) (c:RS QbF M a a0.Parts) (res:(List Int)) (h:Qe2 a0=some res):
 Tri prog 59 #[(a55_ a0 a)] M [] (QmJ a0 a res):=by
 unfold Qe2 at h
 refine Te func59 Z Z ?_
 intro F ρ hρ
 refine Sr (We (box (cs:=(l55 a0 a).toArray) (congrArg Value.cells (asE (a55_ a0 a) (hρ 0)))) Z ?_)
 rintro _ _ _ - ⟨rfl,g,rfl,rfl⟩
 refine qa Zs (Ns (qu (pt g 0) (Fa Qk0 Z Z) (qu (Iv a0.Id) (Lb 0 pl3 Z Z Z) ?_)))
 obtain ⟨K,T,h⟩:=bnd h
 refine We (Ca co56 (QbQ a0.Id _ K T) (QbK Z)) Z ?_
 rintro _ d4 _ w ⟨_,⟨J,c7,rfl,rfl,x⟩,rfl⟩
 refine WL.a1 (qa J (Ns (qm J (qu (pt g 1) (Fa QlP Z Z) (qu (Sv a0.Name) (Lb 1 pl9 Z Z Z) (We (s2b underlying9 underlying38 underlying5 Z) Z ?_))))))
 rintro d5 _ _ - ⟨rfl,c0,rfl,U⟩
 obtain ⟨B,V,h⟩:=bnd h
 refine We (Cb co57 (Tri.lend U.excl fun w0_ H0_ hs0_=>(QjL (bytesOf a0.Name) _ _ (U.rs hs0_) B V)) (QbK Z)) Z ?_
 rintro _ _ _ k ⟨_,⟨W,c8,c1,rfl,rfl,⟨X,Y,rfl,rfl,y⟩⟩,rfl⟩
 have y:OwnS (Kd.int .u8) (W.minus c0) X B Y:=y.any (Kd.int_flat _)
 refine WL.a2 ?_
 obtain ⟨a3,h⟩:=QaQ h
 refine Wb ?_
 have x:=x.mono k
 refine We (append (dd:=(Kd.int .u8)) (xs:=K) (ys:=B) underlying38 underlying38 in5 Z (appB (by decide) a3) (by decide) Z Z x (y.src 2 Z)) Z ?_
 rintro a4 _ _ - ⟨rfl,d6,rfl,L⟩
 refine qa a4 (Ns (qm a4 (qu (pt g 2) (Fa QdB Z Z) (qu a (Lb 3 pl53 Z Z Z) ?_))))
 have c:=c.mono (w.trans k)
 refine qu (Iv (a0.Parts.length:Int)) (lenS underlying53 Z c.len) ?_
 obtain ⟨a5,a6,h⟩:=bnd h
 refine We (Ca co56 (QbQ (a0.Parts.length:Int) _ a5 a6) (QbK Z)) Z ?_
 rintro _ a7 _ l ⟨_,⟨c9,d0,rfl,rfl,a8⟩,rfl⟩
 refine WL.a1 ?_
 obtain ⟨a9,h⟩:=QaQ h
 refine WL.f1 ?_
 have L:=L.mono l
 refine We (append (dd:=(Kd.int .u8)) (xs:=K++B) (ys:=a5) underlying38 underlying38 in5 Z (appB (by decide) a9) (by decide) Z Z L (a8.src 1 Z)) Z ?_
 rintro b0 _ _ - ⟨rfl,c2,rfl,c3⟩
 refine qa b0 (Nt ?_)
 obtain ⟨N,b1,h⟩:=bnd h
 refine Jf (fun(N:(List Int)) ρ' M' H'=>∃ d i,a7.le M'∧[(g, .cells (l55 a0 a).toArray 55 (0,0))]::i::F=H'∧ρ' 3=d∧OwnS (Kd.int .u8) M' d N i) N ?_ ?_
 have h:=b1
 refine Sr (qa (Iv 0) (Nt (Bk (WC.f1 (WC.drop (WC.f1 (WC.drop (WC.f1 (WC.drop (WC.f1 ?_))))))))))
 obtain ⟨d7,b2,b3⟩:=bnd h
 clear h
 refine WC.loop b2 (fun(p_:((List Int)×Int)) ρ' M' H'=>match p_ with |(z,b)=>∃ j o,a7.le M'∧[(g, .cells (l55 a0 a).toArray 55 (0,0))]::o::F=H'∧ρ' 1=(pt g 0)∧ρ' 3=j∧ρ' 4=(Iv b)∧OwnS (Kd.int .u8) M' j z o) ?_ ?_
 exact⟨b0,c2,lr,Z,Z,Z,Z,c3⟩
 rintro ⟨z,b⟩ d8 d9 e0 e1 h ⟨j,o,m,rfl,e,p,f,q⟩
 unfold QdM at h
 refine Cs (Sr (qM (Iv b) f (qu (pt g 2) (Fa QdB e Z) (qu a (Lb 0 pl53 Z Z Z) ?_))))
 have c:=c.mono (l.trans m)
 refine qu (Iv (a0.Parts.length:Int)) (lenS underlying53 Z c.len) (qu (Bv (decide (b<(a0.Parts.length:Int)))) (lss Z Z) (Nt (Ch h Z (fun b4 h=> ?_) (fun b4 h=> ?_))))
 refine Ck (Tc (Cs (Bk (Cg (qM j p (qu (pt g 2) (Fa QdB e Z) (qu a (Lb 0 pl53 Z Z Z) (qM (Iv b) f ?_))))))))
 obtain ⟨r,h⟩:=QaQ h
 obtain ⟨c4,d1,O,P,hhas63⟩:=c.at r.1 r.2 (by decide)
 obtain ⟨s,t,u,v,rfl,C,D,E,G⟩:=Qb7 P
 refine qu (.pointer (some c4)) (indexAddr (n:=a0.Parts.length) underlying53 sz58 Z Z r.1 r.2 O) (qu (a58_ (rd a0.Parts b) s t u v) (loadMA (cs:=(l58 (rd a0.Parts b) s t u v)) ag58 sz58 Z hhas63) ?_)
 obtain ⟨Q,b5,h⟩:=bnd h
 refine We (Ca co85 (Qo2 (rd a0.Parts b) _ _ _ _ _ C D E G Q b5) (QbK Z)) Z ?_
 rintro _ e2 _ A ⟨_,⟨d2,d3,rfl,rfl,b6⟩,rfl⟩
 refine WL.a1 ?_
 obtain ⟨b7,h⟩:=QaQ h
 refine Wb ?_
 have q:=q.mono A
 refine We (append (dd:=(Kd.int .u8)) (xs:=z) (ys:=Q) underlying38 underlying38 in5 Z (appB (by decide) b7) (by decide) Z Z q (b6.src 1 Z)) Z ?_
 rintro b8 _ _ - ⟨rfl,c5,rfl,c6⟩
 refine qa b8 (Wz (Bn (Tc (Cg (qM (Iv b) f (qu (Iv (i64.wrap (b+1))) (add Z Z) (qa (Iv (i64.wrap (b+1))) (Wz (Qa (Dr (Qa ?_)))))))))))
 exact WQ.again (z++Q,i64.wrap (b+1)) (oi h).symm ⟨b8,c5,(m.trans A),Z,e,Z,Z,c6⟩
 refine WC.exit (WQ.thenE (WQ.leaveE z (oi h).symm (fun R=> ?_)))
 subst R
 have h:=b3
 refine WQ.blockH ?_
 obtain rfl:=oi h
 exact Tj ⟨j,o,m,Z,p,q⟩
 rintro e3 e4 e5 ⟨d,i,S,rfl,I,b9⟩
 exact Sr (qM d I (qa d (Nt (Cr (Dr (Rf h [i] Z (Rs Z Z) (((w.trans k).trans l).trans S) ⟨d,i,Z,Z,b9⟩))))))
noncomputable def QgJ (a0:QaA) (s_:((List Int)×Int)):Option (((List Int)×Int)⊕(List Int)):=
 match s_ with
 |(b,a)=>
 (if(decide (a<(a0.Brokers.length:Int)))=true then(grd (0≤a∧a<a0.Brokers.length) ((Qb0 ((rd a0.Brokers a).Id)).bind fun c=>(grd (b.length+c.length≤274877906944) ((Qb0 ((rd a0.Brokers a).Epoch)).bind fun d=>(grd ((b++c).length+d.length≤274877906944) ((QfU (bytesOf ((rd a0.Brokers a).Rack))).bind fun e=>(grd (((b++c)++d).length+e.length≤274877906944) ((QkO ((rd a0.Brokers a).Fenced)).bind fun f=>(grd ((((b++c)++d)++e).length+f.length≤274877906944) ((QkO ((rd a0.Brokers a).Leaving)).bind fun g=>(grd (((((b++c)++d)++e)++f).length+g.length≤274877906944) (some (inl (((((b++c)++d)++e)++f)++g,i64.wrap (a+(1:Int))))))))))))))))else(some (inr b)))
noncomputable def QgK (a0:QaA) (s_:((List Int)×Int)):Option (((List Int)×Int)⊕(List Int)):=
 match s_ with
 |(b,a)=>
 (if(decide (a<(a0.Topics.length:Int)))=true then(grd (0≤a∧a<a0.Topics.length) ((Qe2 (rd a0.Topics a)).bind fun c=>(grd (b.length+c.length≤274877906944) (some (inl (b++c,i64.wrap (a+(1:Int))))))))else(some (inr b)))
noncomputable def QgL (a0:QaA) (s_:((List Int)×Int)):Option (((List Int)×Int)⊕(List Int)):=
 match s_ with
 |(b,a)=>
 (if(decide (a<(a0.Configs.length:Int)))=true then(grd (0≤a∧a<a0.Configs.length) ((Qb0 ((rd a0.Configs a).Topic)).bind fun c=>(grd (b.length+c.length≤274877906944) ((QfU (bytesOf ((rd a0.Configs a).Key))).bind fun d=>(grd ((b++c).length+d.length≤274877906944) ((QfU (bytesOf ((rd a0.Configs a).Value))).bind fun e=>(grd (((b++c)++d).length+e.length≤274877906944) (some (inl (((b++c)++d)++e,i64.wrap (a+(1:Int))))))))))))else(some (inr b)))
noncomputable def QgM (a0:QaA) (s_:((List Int)×Int)):Option (((List Int)×Int)⊕(List Int)):=
 match s_ with
 |(b,a)=>
 (if(decide (a<(a0.Done.length:Int)))=true then(grd (0≤a∧a<a0.Done.length) ((Qb0 ((rd a0.Done a).Client)).bind fun c=>(grd (b.length+c.length≤274877906944) ((Qb0 ((rd a0.Done a).Serial)).bind fun d=>(grd ((b++c).length+d.length≤274877906944) ((Qb0 ((rd a0.Done a).Code)).bind fun e=>(grd (((b++c)++d).length+e.length≤274877906944) (some (inl (((b++c)++d)++e,i64.wrap (a+(1:Int))))))))))))else(some (inr b)))
noncomputable def QjM (a0:QaA):Option (List Int):=
 ((Qb0 a0.Last).bind fun f=>((Qb0 (a0.Brokers.length:Int)).bind fun g=>(grd (f.length+g.length≤274877906944) ((((iter (QgJ a0) (f++g,(0:Int))).bind (fun(n:(List Int))=>(some n))):Option (List Int)).bind fun i=>((Qb0 (a0.Topics.length:Int)).bind fun a=>(grd (i.length+a.length≤274877906944) ((((iter (QgK a0) (i++a,(0:Int))).bind (fun(j:(List Int))=>(some j))):Option (List Int)).bind fun b=>((Qb0 (a0.Configs.length:Int)).bind fun c=>(grd (b.length+c.length≤274877906944) ((((iter (QgL a0) (b++c,(0:Int))).bind (fun(k:(List Int))=>(some k))):Option (List Int)).bind fun d=>((Qb0 (a0.Done.length:Int)).bind fun e=>(grd (d.length+e.length≤274877906944) ((((iter (QgM a0) (d++e,(0:Int))).bind (fun(l:(List Int))=>(some l))):Option (List Int)).bind fun m=>(some m))))))))))))))
def QrE (a0:QaA) (c d e f:Value):(List Int)→Value→IM→HL→Prop:=
 fun(g:(List Int)) (v:Value) (M':IM) (H':HL)=>∃ a b,a=v∧H'=[b]∧OwnS (Kd.int .u8) M' a g b
theorem Qt4 (a0:QaA) (M:IM) (d e f g:Value) (q:RS QaD M d a0.Brokers) (r:RS QaG M e a0.Topics) (s:RS QaF M f a0.Configs) (t:RS QaI M g a0.Done) (res:(List Int)) (h:QjM a0=some res):
 Tri prog 14 #[(a27_ a0 d e f g)] M [] (QrE a0 d e f g res):=by
 unfold QjM at h
 refine Te func14 Z Z ?_
 intro F ρ hρ
 refine Sr (We (box (cs:=(l27 a0 d e f g).toArray) (congrArg Value.cells (asE (a27_ a0 d e f g) (hρ 0)))) Z ?_)
 rintro _ _ _ - ⟨rfl,c,rfl,rfl⟩
 refine qa Zs (Ns (qu (pt c 4) (Fa QmS Z Z) (qu (Iv a0.Last) (Lb 0 pl3 Z Z Z) ?_)))
 obtain ⟨q2,q3,h⟩:=bnd h
 refine We (Ca co56 (QbQ a0.Last _ q2 q3) (QbK Z)) Z ?_
 rintro _ D3 _ e4 ⟨_,⟨i5,y5,rfl,rfl,e5⟩,rfl⟩
 refine WL.a1 (qa i5 (Ns (qm i5 (qu (pt c 0) (Fa QdN Z Z) (qu d (Lb 1 pl22 Z Z Z) ?_)))))
 have q:=q.mono e4
 refine qu (Iv (a0.Brokers.length:Int)) (lenS underlying22 Z q.len) ?_
 obtain ⟨q4,q5,h⟩:=bnd h
 refine We (Ca co56 (QbQ (a0.Brokers.length:Int) _ q4 q5) (QbK Z)) Z ?_
 rintro _ q6 _ b5 ⟨_,⟨y6,y7,rfl,rfl,q7⟩,rfl⟩
 refine WL.a1 ?_
 obtain ⟨q8,h⟩:=QaQ h
 refine WL.f1 ?_
 have e5:=e5.mono b5
 refine We (append (dd:=(Kd.int .u8)) (xs:=q2) (ys:=q4) underlying38 underlying38 in5 Z (appB (by decide) q8) (by decide) Z Z e5 (q7.src 1 Z)) Z ?_
 rintro q9 _ _ - ⟨rfl,v7,rfl,v8⟩
 refine qa q9 (Nt ?_)
 obtain ⟨h1,r0,h⟩:=bnd h
 refine Jf (fun(h1:(List Int)) ρ' M' H'=>∃ c4 e6,q6.le M'∧[(c, .cells (l27 a0 d e f g).toArray 27 (0,0))]::e6::F=H'∧ρ' 1=(pt c 0)∧ρ' 3=c4∧OwnS (Kd.int .u8) M' c4 h1 e6) h1 ?_ ?_
 have h:=r0
 refine Sr (qa (Iv 0) (Nt (Bk (WC.f1 (WC.drop (WC.f1 ?_))))))
 obtain ⟨D4,r1,r2⟩:=bnd h
 clear h
 refine WC.loop r1 (fun(p_:((List Int)×Int)) ρ' M' H'=>match p_ with |(G,i)=>∃ a4 c5,q6.le M'∧[(c, .cells (l27 a0 d e f g).toArray 27 (0,0))]::c5::F=H'∧ρ' 1=(pt c 0)∧ρ' 3=a4∧ρ' 4=(Iv i)∧OwnS (Kd.int .u8) M' a4 G c5) ?_ ?_
 exact⟨q9,v7,lr,Z,Z,Z,Z,v8⟩
 rintro ⟨G,i⟩ D5 D6 D7 D8 h ⟨a4,c5,b6,rfl,o,c6,I,c7⟩
 unfold QgJ at h
 refine Cs (Sr (qM (Iv i) I (qu (pt c 0) (Fa QdN o Z) (qu d (Lb 0 pl22 Z Z Z) ?_))))
 have q:=q.mono (b5.trans b6)
 refine qu (Iv (a0.Brokers.length:Int)) (lenS underlying22 Z q.len) (qu (Bv (decide (i<(a0.Brokers.length:Int)))) (lss Z Z) (Nt (Ch h Z (fun r3 h=> ?_) (fun r3 h=> ?_))))
 refine Ck (Tc (Cs (Bk (Sr (qu (pt c 0) (Fa QdN o Z) (qu d (Lb 0 pl22 Z Z Z) (qM (Iv i) I ?_)))))))
 obtain ⟨c8,h⟩:=QaQ h
 obtain ⟨v9,y8,k5,k6,hhas48⟩:=q.at c8.1 c8.2 (by decide)
 obtain rfl:=Qa2 k6
 refine qu (.pointer (some v9)) (indexAddr (n:=a0.Brokers.length) underlying22 sz71 Z Z c8.1 c8.2 k5) (qu (a71_ (rd a0.Brokers i)) (loadMA (cs:=(l71 (rd a0.Brokers i))) ag71 sz71 Z hhas48) (We (Al ze71 Z) Z ?_))
 rintro _ _ _ - ⟨rfl,e7,rfl,rfl⟩
 refine We (Sg (v:=(a71_ (rd a0.Brokers i))) (vl:=(l71 (rd a0.Brokers i))) (arr':=(l71 (rd a0.Brokers i))) Z sz71 Z Z (onb Z) Z Z Z) Z ?_
 rintro _ _ _ - ⟨rfl,rfl⟩
 refine Ns (qM a4 c6 (qu (pt e7 0) (Fa QhQ Z Z) (qu (Iv ((rd a0.Brokers i).Id)) (Lb 0 pl3 Z Z Z) ?_)))
 obtain ⟨b7,r4,h⟩:=bnd h
 refine We (Ca co56 (QbQ ((rd a0.Brokers i).Id) _ b7 r4) (QbK Z)) Z ?_
 rintro _ D9 _ e8 ⟨_,⟨y9,z0,rfl,rfl,r5⟩,rfl⟩
 refine WL.a1 ?_
 obtain ⟨r6,h⟩:=QaQ h
 refine WL.f3 ?_
 have c7:=c7.mono e8
 refine We (append (dd:=(Kd.int .u8)) (xs:=G) (ys:=b7) underlying38 underlying38 in5 Z (appB (by decide) r6) (by decide) Z Z c7 (r5.src 1 Z)) Z ?_
 rintro r7 _ _ - ⟨rfl,E0,rfl,k7⟩
 refine qa r7 (Ns (qm r7 (qu (pt e7 1) (Fa QmU Z Z) (qu (Iv ((rd a0.Brokers i).Epoch)) (Lb 2 pl3 Z Z Z) ?_))))
 obtain ⟨e2,r8,h⟩:=bnd h
 refine We (Ca co56 (QbQ ((rd a0.Brokers i).Epoch) _ e2 r8) (QbK Z)) Z ?_
 rintro _ E1 _ e9 ⟨_,⟨z1,z2,rfl,rfl,r9⟩,rfl⟩
 refine WL.a1 ?_
 obtain ⟨s0,h⟩:=QaQ h
 refine WL.f1 ?_
 have k7:=k7.mono e9
 refine We (append (dd:=(Kd.int .u8)) (xs:=G++b7) (ys:=e2) underlying38 underlying38 in5 Z (appB (by decide) s0) (by decide) Z Z k7 (r9.src 1 Z)) Z ?_
 rintro s1 _ _ - ⟨rfl,E2,rfl,k8⟩
 refine qa s1 (Ns (qm s1 (qu (pt e7 2) (Fa QpG Z Z) (qu (Sv ((rd a0.Brokers i).Rack)) (Lb 3 pl9 Z Z Z) (We (s2b underlying9 underlying38 underlying5 Z) Z ?_)))))
 rintro E3 _ _ - ⟨rfl,w0,rfl,s2⟩
 obtain ⟨e3,s3,h⟩:=bnd h
 refine We (Cb co57 (Tri.lend s2.excl fun w0_ H0_ hs0_=>(QjL (bytesOf ((rd a0.Brokers i).Rack)) _ _ (s2.rs hs0_) e3 s3)) (QbK Z)) Z ?_
 rintro _ _ _ f0 ⟨_,⟨s4,z3,w1,rfl,rfl,⟨s5,s6,rfl,rfl,f2⟩⟩,rfl⟩
 have f2:OwnS (Kd.int .u8) (s4.minus w0) s5 e3 s6:=f2.any (Kd.int_flat _)
 refine WL.a2 ?_
 obtain ⟨s7,h⟩:=QaQ h
 refine Wb ?_
 have k8:=k8.mono f0
 refine We (append (dd:=(Kd.int .u8)) (xs:=(G++b7)++e2) (ys:=e3) underlying38 underlying38 in5 Z (appB (by decide) s7) (by decide) Z Z k8 (f2.src 2 Z)) Z ?_
 rintro s8 _ _ - ⟨rfl,E4,rfl,k9⟩
 refine qa s8 (Ns (qm s8 (qu (pt e7 3) (Fa QnX Z Z) (qu (Bv ((rd a0.Brokers i).Fenced)) (Lb 5 pl4 Z Z Z) ?_))))
 obtain ⟨h2,s9,h⟩:=bnd h
 refine We (Ca co58 (QnQ ((rd a0.Brokers i).Fenced) _ h2 s9) (QbK Z)) Z ?_
 rintro _ E5 _ f4 ⟨_,⟨z4,z5,rfl,rfl,t0⟩,rfl⟩
 refine WL.a1 ?_
 obtain ⟨t1,h⟩:=QaQ h
 refine WL.f1 ?_
 have k9:=k9.mono f4
 refine We (append (dd:=(Kd.int .u8)) (xs:=((G++b7)++e2)++e3) (ys:=h2) underlying38 underlying38 in5 Z (appB (by decide) t1) (by decide) Z Z k9 (t0.src 1 Z)) Z ?_
 rintro t2 _ _ - ⟨rfl,E6,rfl,l0⟩
 refine qa t2 (Nt (Cg (qm t2 (qu (pt e7 4) (Fa Qs5 Z Z) (qu (Bv ((rd a0.Brokers i).Leaving)) (Lb 6 pl4 Z Z Z) ?_)))))
 obtain ⟨l1,t3,h⟩:=bnd h
 refine We (Ca co58 (QnQ ((rd a0.Brokers i).Leaving) _ l1 t3) (QbK Z)) Z ?_
 rintro _ E7 _ f5 ⟨_,⟨z6,z7,rfl,rfl,t4⟩,rfl⟩
 refine WL.a1 ?_
 obtain ⟨l2,h⟩:=QaQ h
 refine WL.f1 ?_
 have l0:=l0.mono f5
 refine We (append (dd:=(Kd.int .u8)) (xs:=(((G++b7)++e2)++e3)++h2) (ys:=l1) underlying38 underlying38 in5 Z (appB (by decide) l2) (by decide) Z Z l0 (t4.src 1 Z)) Z ?_
 rintro i6 _ _ - ⟨rfl,w2,rfl,w3⟩
 refine qa i6 (Wz (Bn (Tc (Cg (qM (Iv i) I (qu (Iv (i64.wrap (i+1))) (add Z Z) (qa (Iv (i64.wrap (i+1))) (Wz (Qa (Dr (Qa ?_)))))))))))
 refine Dr (Qa (Dr (Qa (Dr (Qa (Dr (Qa (Dr (Qa (Dr (Qa ?_)))))))))))
 exact WQ.again (((((G++b7)++e2)++e3)++h2)++l1,i64.wrap (i+1)) (oi h).symm ⟨i6,w2,(((((b6.trans e8).trans e9).trans f0).trans f4).trans f5),Z,o,Z,Z,w3⟩
 refine WC.exit (WQ.thenE (WQ.leaveE G (oi h).symm (fun l3=> ?_)))
 subst l3
 have h:=r2
 refine WQ.blockH ?_
 obtain rfl:=oi h
 exact Tj ⟨a4,c5,b6,Z,o,c6,c7⟩
 rintro E8 E9 F0 ⟨c4,e6,l4,rfl,c9,h3,f6⟩
 have t5:=(e4.trans b5).trans l4
 refine Sr (qM c4 h3 (qu (pt c 1) (Fa QbW c9 Z) (qu e (Lb 0 pl23 Z Z Z) ?_)))
 have r:=r.mono t5
 refine qu (Iv (a0.Topics.length:Int)) (lenS underlying23 Z r.len) ?_
 obtain ⟨i7,l5,h⟩:=bnd h
 refine We (Ca co56 (QbQ (a0.Topics.length:Int) _ i7 l5) (QbK Z)) Z ?_
 rintro _ i8 _ J ⟨_,⟨w4,w5,rfl,rfl,l6⟩,rfl⟩
 have t6:=t5.trans J
 refine WL.a1 ?_
 obtain ⟨l7,h⟩:=QaQ h
 refine Wb ?_
 have f6:=f6.mono J
 refine We (append (dd:=(Kd.int .u8)) (xs:=h1) (ys:=i7) underlying38 underlying38 in5 Z (appB (by decide) l7) (by decide) Z Z f6 (l6.src 1 Z)) Z ?_
 rintro i9 _ _ - ⟨rfl,t7,rfl,t8⟩
 refine qa i9 (Nt ?_)
 obtain ⟨d0,l8,h⟩:=bnd h
 refine Jf (fun(d0:(List Int)) ρ' M' H'=>∃ K b8,i8.le M'∧[(c, .cells (l27 a0 d e f g).toArray 27 (0,0))]::b8::F=H'∧ρ' 1=(pt c 0)∧ρ' 3=K∧OwnS (Kd.int .u8) M' K d0 b8) d0 ?_ ?_
 have h:=l8
 refine Sr (qa (Iv 0) (Nt (Bk (WC.f1 (WC.drop (WC.f1 ?_))))))
 obtain ⟨z8,l9,m0⟩:=bnd h
 clear h
 refine WC.loop l9 (fun(p_:((List Int)×Int)) ρ' M' H'=>match p_ with |(a5,j)=>∃ u L,i8.le M'∧[(c, .cells (l27 a0 d e f g).toArray 27 (0,0))]::L::F=H'∧ρ' 1=(pt c 0)∧ρ' 3=u∧ρ' 6=(Iv j)∧OwnS (Kd.int .u8) M' u a5 L) ?_ ?_
 exact⟨i9,t7,lr,Z,c9,Z,Z,t8⟩
 rintro ⟨a5,j⟩ z9 A0 A1 A2 h ⟨u,L,N,rfl,k,a6,w,O⟩
 unfold QgK at h
 refine Cs (Sr (qM (Iv j) w (qu (pt c 1) (Fa QbW k Z) (qu e (Lb 0 pl23 Z Z Z) ?_))))
 have r:=r.mono (J.trans N)
 refine qu (Iv (a0.Topics.length:Int)) (lenS underlying23 Z r.len) (qu (Bv (decide (j<(a0.Topics.length:Int)))) (lss Z Z) (Nt (Ch h Z (fun m1 h=> ?_) (fun m1 h=> ?_))))
 refine Ck (Tc (Cs (Bk (Cg (qM u a6 (qu (pt c 1) (Fa QbW k Z) (qu e (Lb 0 pl23 Z Z Z) (qM (Iv j) w ?_))))))))
 obtain ⟨P,h⟩:=QaQ h
 obtain ⟨t9,w6,h4,h5,hhas123⟩:=r.at P.1 P.2 (by decide)
 obtain ⟨a7,rfl,f7⟩:=QaN h5
 refine qu (.pointer (some t9)) (indexAddr (n:=a0.Topics.length) underlying23 sz55 Z Z P.1 P.2 h4) (qu (a55_ (rd a0.Topics j) a7) (loadMA (cs:=(l55 (rd a0.Topics j) a7)) ag55 sz55 Z hhas123) ?_)
 obtain ⟨f8,m2,h⟩:=bnd h
 refine We (Ca co59 (QnR (rd a0.Topics j) _ _ f7 f8 m2) (QbK Z)) Z ?_
 rintro _ A3 _ d1 ⟨_,⟨w7,w8,rfl,rfl,m3⟩,rfl⟩
 refine WL.a1 ?_
 obtain ⟨m4,h⟩:=QaQ h
 refine Wb ?_
 have O:=O.mono d1
 refine We (append (dd:=(Kd.int .u8)) (xs:=a5) (ys:=f8) underlying38 underlying38 in5 Z (appB (by decide) m4) (by decide) Z Z O (m3.src 1 Z)) Z ?_
 rintro j0 _ _ - ⟨rfl,u0,rfl,u1⟩
 refine qa j0 (Wz (Bn (Tc (Cg (qM (Iv j) w (qu (Iv (i64.wrap (j+1))) (add Z Z) (qa (Iv (i64.wrap (j+1))) (Wz (Qa (Dr (Qa ?_)))))))))))
 exact WQ.again (a5++f8,i64.wrap (j+1)) (oi h).symm ⟨j0,u0,(N.trans d1),Z,k,Z,Z,u1⟩
 refine WC.exit (WQ.thenE (WQ.leaveE a5 (oi h).symm (fun h6=> ?_)))
 subst h6
 have h:=m0
 refine WQ.blockH ?_
 obtain rfl:=oi h
 exact Tj ⟨u,L,N,Z,k,a6,O⟩
 rintro A4 A5 A6 ⟨K,b8,h7,rfl,a8,f9,b9⟩
 have g0:=t6.trans h7
 refine Sr (qM K f9 (qu (pt c 2) (Fa Qc5 a8 Z) (qu f (Lb 0 pl24 Z Z Z) ?_)))
 have s:=s.mono g0
 refine qu (Iv (a0.Configs.length:Int)) (lenS underlying24 Z s.len) ?_
 obtain ⟨j1,m5,h⟩:=bnd h
 refine We (Ca co56 (QbQ (a0.Configs.length:Int) _ j1 m5) (QbK Z)) Z ?_
 rintro _ j2 _ p ⟨_,⟨w9,x0,rfl,rfl,m6⟩,rfl⟩
 refine WL.a1 ?_
 obtain ⟨m7,h⟩:=QaQ h
 refine Wb ?_
 have b9:=b9.mono p
 refine We (append (dd:=(Kd.int .u8)) (xs:=d0) (ys:=j1) underlying38 underlying38 in5 Z (appB (by decide) m7) (by decide) Z Z b9 (m6.src 1 Z)) Z ?_
 rintro j3 _ _ - ⟨rfl,u2,rfl,u3⟩
 refine qa j3 (Nt ?_)
 obtain ⟨d2,m8,h⟩:=bnd h
 refine Jf (fun(d2:(List Int)) ρ' M' H'=>∃ Q c0,j2.le M'∧[(c, .cells (l27 a0 d e f g).toArray 27 (0,0))]::c0::F=H'∧ρ' 1=(pt c 0)∧ρ' 3=Q∧OwnS (Kd.int .u8) M' Q d2 c0) d2 ?_ ?_
 have h:=m8
 refine Sr (qa (Iv 0) (Nt (Bk (WC.f1 (WC.drop (WC.f1 ?_))))))
 obtain ⟨A7,m9,n0⟩:=bnd h
 clear h
 refine WC.loop m9 (fun(p_:((List Int)×Int)) ρ' M' H'=>match p_ with |(x,a)=>∃ y R,j2.le M'∧[(c, .cells (l27 a0 d e f g).toArray 27 (0,0))]::R::F=H'∧ρ' 1=(pt c 0)∧ρ' 3=y∧ρ' 7=(Iv a)∧OwnS (Kd.int .u8) M' y x R) ?_ ?_
 exact⟨j3,u2,lr,Z,a8,Z,Z,u3⟩
 rintro ⟨x,a⟩ A8 A9 B0 B1 h ⟨y,R,S,rfl,l,a9,z,T⟩
 unfold QgL at h
 refine Cs (Sr (qM (Iv a) z (qu (pt c 2) (Fa Qc5 l Z) (qu f (Lb 0 pl24 Z Z Z) ?_))))
 have s:=s.mono (p.trans S)
 refine qu (Iv (a0.Configs.length:Int)) (lenS underlying24 Z s.len) (qu (Bv (decide (a<(a0.Configs.length:Int)))) (lss Z Z) (Nt (Ch h Z (fun n1 h=> ?_) (fun n1 h=> ?_))))
 refine Ck (Tc (Cs (Bk (Sr (qu (pt c 2) (Fa Qc5 l Z) (qu f (Lb 0 pl24 Z Z Z) (qM (Iv a) z ?_)))))))
 obtain ⟨U,h⟩:=QaQ h
 obtain ⟨u4,x1,h8,h9,hhas155⟩:=s.at U.1 U.2 (by decide)
 obtain rfl:=Qa8 h9
 refine qu (.pointer (some u4)) (indexAddr (n:=a0.Configs.length) underlying24 sz76 Z Z U.1 U.2 h8) (qu (a76_ (rd a0.Configs a)) (loadMA (cs:=(l76 (rd a0.Configs a))) ag76 sz76 Z hhas155) (We (Al ze76 Z) Z ?_))
 rintro _ _ _ - ⟨rfl,g1,rfl,rfl⟩
 refine We (Sg (v:=(a76_ (rd a0.Configs a))) (vl:=(l76 (rd a0.Configs a))) (arr':=(l76 (rd a0.Configs a))) Z sz76 Z Z (onb Z) Z Z Z) Z ?_
 rintro _ _ _ - ⟨rfl,rfl⟩
 refine Ns (qM y a9 (qu (pt g1 0) (Fa QeF Z Z) (qu (Iv ((rd a0.Configs a).Topic)) (Lb 0 pl3 Z Z Z) ?_)))
 obtain ⟨b0,n2,h⟩:=bnd h
 refine We (Ca co56 (QbQ ((rd a0.Configs a).Topic) _ b0 n2) (QbK Z)) Z ?_
 rintro _ B2 _ d3 ⟨_,⟨x2,x3,rfl,rfl,n3⟩,rfl⟩
 refine WL.a1 ?_
 obtain ⟨n4,h⟩:=QaQ h
 refine WL.f3 ?_
 have T:=T.mono d3
 refine We (append (dd:=(Kd.int .u8)) (xs:=x) (ys:=b0) underlying38 underlying38 in5 Z (appB (by decide) n4) (by decide) Z Z T (n3.src 1 Z)) Z ?_
 rintro j4 _ _ - ⟨rfl,B3,rfl,g2⟩
 refine qa j4 (Ns (qm j4 (qu (pt g1 1) (Fa QfV Z Z) (qu (Sv ((rd a0.Configs a).Key)) (Lb 2 pl9 Z Z Z) (We (s2b underlying9 underlying38 underlying5 Z) Z ?_)))))
 rintro B4 _ _ - ⟨rfl,u5,rfl,j5⟩
 obtain ⟨b1,n5,h⟩:=bnd h
 refine We (Cb co57 (Tri.lend j5.excl fun w0_ H0_ hs0_=>(QjL (bytesOf ((rd a0.Configs a).Key)) _ _ (j5.rs hs0_) b1 n5)) (QbK Z)) Z ?_
 rintro _ _ _ d4 ⟨_,⟨n6,x4,v5,rfl,rfl,⟨n7,n8,rfl,rfl,c1⟩⟩,rfl⟩
 have c1:OwnS (Kd.int .u8) (n6.minus u5) n7 b1 n8:=c1.any (Kd.int_flat _)
 refine WL.a2 ?_
 obtain ⟨n9,h⟩:=QaQ h
 refine Wb ?_
 have g2:=g2.mono d4
 refine We (append (dd:=(Kd.int .u8)) (xs:=x++b0) (ys:=b1) underlying38 underlying38 in5 Z (appB (by decide) n9) (by decide) Z Z g2 (c1.src 2 Z)) Z ?_
 rintro j6 _ _ - ⟨rfl,B5,rfl,g3⟩
 refine qa j6 (Nt (Cg (qm j6 (qu (pt g1 2) (Fa QfW Z Z) (qu (Sv ((rd a0.Configs a).Value)) (Lb 4 pl9 Z Z Z) (We (s2b underlying9 underlying38 underlying5 Z) Z ?_))))))
 rintro B6 _ _ - ⟨rfl,u6,rfl,j7⟩
 obtain ⟨d5,o0,h⟩:=bnd h
 refine We (Cb co57 (Tri.lend j7.excl fun w0_ H0_ hs0_=>(QjL (bytesOf ((rd a0.Configs a).Value)) _ _ (j7.rs hs0_) d5 o0)) (QbK Z)) Z ?_
 rintro _ _ _ d6 ⟨_,⟨o1,x5,v6,rfl,rfl,⟨o2,o3,rfl,rfl,c2⟩⟩,rfl⟩
 have c2:OwnS (Kd.int .u8) (o1.minus u6) o2 d5 o3:=c2.any (Kd.int_flat _)
 refine WL.a2 ?_
 obtain ⟨o4,h⟩:=QaQ h
 refine Wb ?_
 have g3:=g3.mono d6
 refine We (append (dd:=(Kd.int .u8)) (xs:=(x++b0)++b1) (ys:=d5) underlying38 underlying38 in5 Z (appB (by decide) o4) (by decide) Z Z g3 (c2.src 2 Z)) Z ?_
 rintro j8 _ _ - ⟨rfl,u7,rfl,u9⟩
 refine qa j8 (Wz (Bn (Tc (Cg (qM (Iv a) z (qu (Iv (i64.wrap (a+1))) (add Z Z) (qa (Iv (i64.wrap (a+1))) (Wz (Qa (Dr (Qa ?_)))))))))))
 exact Dr (Qa (Dr (Qa (Dr (Qa (Dr (Qa (Dr (Qa (WQ.again (((x++b0)++b1)++d5,i64.wrap (a+1)) (oi h).symm ⟨j8,u7,(((S.trans d3).trans d4).trans d6),Z,l,Z,Z,u9⟩))))))))))
 refine WC.exit (WQ.thenE (WQ.leaveE x (oi h).symm (fun i0=> ?_)))
 subst i0
 have h:=n0
 refine WQ.blockH ?_
 obtain rfl:=oi h
 exact Tj ⟨y,R,S,Z,l,a9,T⟩
 rintro B7 B8 B9 ⟨Q,c0,d7,rfl,b2,g4,c3⟩
 refine Sr (qM Q g4 (qu (pt c 3) (Fa QdW b2 Z) (qu g (Lb 0 pl25 Z Z Z) ?_)))
 have t:=t.mono ((g0.trans p).trans d7)
 refine qu (Iv (a0.Done.length:Int)) (lenS underlying25 Z t.len) ?_
 obtain ⟨j9,o5,h⟩:=bnd h
 refine We (Ca co56 (QbQ (a0.Done.length:Int) _ j9 o5) (QbK Z)) Z ?_
 rintro _ k0 _ V ⟨_,⟨x6,x7,rfl,rfl,o6⟩,rfl⟩
 refine WL.a1 ?_
 obtain ⟨o7,h⟩:=QaQ h
 refine Wb ?_
 have c3:=c3.mono V
 refine We (append (dd:=(Kd.int .u8)) (xs:=d2) (ys:=j9) underlying38 underlying38 in5 Z (appB (by decide) o7) (by decide) Z Z c3 (o6.src 1 Z)) Z ?_
 rintro k1 _ _ - ⟨rfl,v0,rfl,v1⟩
 refine qa k1 (Nt ?_)
 obtain ⟨g5,o8,h⟩:=bnd h
 refine Jf (fun(g5:(List Int)) ρ' M' H'=>∃ m A,k0.le M'∧[(c, .cells (l27 a0 d e f g).toArray 27 (0,0))]::A::F=H'∧ρ' 3=m∧OwnS (Kd.int .u8) M' m g5 A) g5 ?_ ?_
 have h:=o8
 refine Sr (qa (Iv 0) (Nt (Bk (WC.f1 (WC.drop (WC.f1 ?_))))))
 obtain ⟨C0,o9,p0⟩:=bnd h
 clear h
 refine WC.loop o9 (fun(p_:((List Int)×Int)) ρ' M' H'=>match p_ with |(B,b)=>∃ C W,k0.le M'∧[(c, .cells (l27 a0 d e f g).toArray 27 (0,0))]::W::F=H'∧ρ' 1=(pt c 0)∧ρ' 3=C∧ρ' 9=(Iv b)∧OwnS (Kd.int .u8) M' C B W) ?_ ?_
 exact⟨k1,v0,lr,Z,b2,Z,Z,v1⟩
 rintro ⟨B,b⟩ C1 C2 C3 C4 h ⟨C,W,X,rfl,D,b3,E,Y⟩
 unfold QgM at h
 refine Cs (Sr (qM (Iv b) E (qu (pt c 3) (Fa QdW D Z) (qu g (Lb 0 pl25 Z Z Z) ?_))))
 have t:=t.mono (V.trans X)
 refine qu (Iv (a0.Done.length:Int)) (lenS underlying25 Z t.len) (qu (Bv (decide (b<(a0.Done.length:Int)))) (lss Z Z) (Nt (Ch h Z (fun p1 h=> ?_) (fun p1 h=> ?_))))
 refine Ck (Tc (Cs (Bk (Sr (qu (pt c 3) (Fa QdW D Z) (qu g (Lb 0 pl25 Z Z Z) (qM (Iv b) E ?_)))))))
 obtain ⟨a3,h⟩:=QaQ h
 obtain ⟨v2,x8,i1,i2,hhas218⟩:=t.at a3.1 a3.2 (by decide)
 obtain rfl:=Qb8 i2
 refine qu (.pointer (some v2)) (indexAddr (n:=a0.Done.length) underlying25 sz67 Z Z a3.1 a3.2 i1) (qu (a67_ (rd a0.Done b)) (loadMA (cs:=(l67 (rd a0.Done b))) ag67 sz67 Z hhas218) (We (Al ze67 Z) Z ?_))
 rintro _ _ _ - ⟨rfl,g6,rfl,rfl⟩
 refine We (Sg (v:=(a67_ (rd a0.Done b))) (vl:=(l67 (rd a0.Done b))) (arr':=(l67 (rd a0.Done b))) Z sz67 Z Z (onb Z) Z Z Z) Z ?_
 rintro _ _ _ - ⟨rfl,rfl⟩
 refine Ns (qM C b3 (qu (pt g6 0) (Fa QrI Z Z) (qu (Iv ((rd a0.Done b).Client)) (Lb 0 pl3 Z Z Z) ?_)))
 obtain ⟨b4,p2,h⟩:=bnd h
 refine We (Ca co56 (QbQ ((rd a0.Done b).Client) _ b4 p2) (QbK Z)) Z ?_
 rintro _ C5 _ d8 ⟨_,⟨x9,y0,rfl,rfl,p3⟩,rfl⟩
 refine WL.a1 ?_
 obtain ⟨p4,h⟩:=QaQ h
 refine WL.f3 ?_
 have Y:=Y.mono d8
 refine We (append (dd:=(Kd.int .u8)) (xs:=B) (ys:=b4) underlying38 underlying38 in5 Z (appB (by decide) p4) (by decide) Z Z Y (p3.src 1 Z)) Z ?_
 rintro k2 _ _ - ⟨rfl,C6,rfl,g7⟩
 refine qa k2 (Ns (qm k2 (qu (pt g6 1) (Fa QpF Z Z) (qu (Iv ((rd a0.Done b).Serial)) (Lb 2 pl3 Z Z Z) ?_))))
 obtain ⟨d9,p5,h⟩:=bnd h
 refine We (Ca co56 (QbQ ((rd a0.Done b).Serial) _ d9 p5) (QbK Z)) Z ?_
 rintro _ C7 _ e0 ⟨_,⟨y1,y2,rfl,rfl,p6⟩,rfl⟩
 refine WL.a1 ?_
 obtain ⟨p7,h⟩:=QaQ h
 refine WL.f1 ?_
 have g7:=g7.mono e0
 refine We (append (dd:=(Kd.int .u8)) (xs:=B++b4) (ys:=d9) underlying38 underlying38 in5 Z (appB (by decide) p7) (by decide) Z Z g7 (p6.src 1 Z)) Z ?_
 rintro k3 _ _ - ⟨rfl,C8,rfl,g8⟩
 refine qa k3 (Nt (Cg (qm k3 (qu (pt g6 2) (Fa Qs4 Z Z) (qu (Iv ((rd a0.Done b).Code)) (Lb 3 pl3 Z Z Z) ?_)))))
 obtain ⟨g9,p8,h⟩:=bnd h
 refine We (Ca co56 (QbQ ((rd a0.Done b).Code) _ g9 p8) (QbK Z)) Z ?_
 rintro _ C9 _ e1 ⟨_,⟨y3,y4,rfl,rfl,p9⟩,rfl⟩
 refine WL.a1 ?_
 obtain ⟨q0,h⟩:=QaQ h
 refine WL.f1 ?_
 have g8:=g8.mono e1
 refine We (append (dd:=(Kd.int .u8)) (xs:=(B++b4)++d9) (ys:=g9) underlying38 underlying38 in5 Z (appB (by decide) q0) (by decide) Z Z g8 (p9.src 1 Z)) Z ?_
 rintro k4 _ _ - ⟨rfl,v3,rfl,v4⟩
 refine qa k4 (Wz (Bn (Tc (Cg (qM (Iv b) E (qu (Iv (i64.wrap (b+1))) (add Z Z) (qa (Iv (i64.wrap (b+1))) (Wz (Qa (Dr (Qa ?_)))))))))))
 exact Dr (Qa (Dr (Qa (Dr (Qa (WQ.again (((B++b4)++d9)++g9,i64.wrap (b+1)) (oi h).symm ⟨k4,v3,(((X.trans d8).trans e0).trans e1),Z,D,Z,Z,v4⟩))))))
 refine WC.exit (WQ.thenE (WQ.leaveE B (oi h).symm (fun i3=> ?_)))
 subst i3
 have h:=p0
 refine WQ.blockH ?_
 obtain rfl:=oi h
 exact Tj ⟨C,W,X,Z,b3,Y⟩
 rintro D0 D1 D2 ⟨m,A,i4,rfl,h0,q1⟩
 exact Sr (qM m h0 (qa m (Nt (Cr (Dr (Rf h [A] Z (Rs Z Z) ((((g0.trans p).trans d7).trans V).trans i4) ⟨m,A,Z,Z,q1⟩))))))
noncomputable def QfN (a0:(List Int)) (a1:(List Int)) (s_:Int):Option (Int⊕(Unit⊕Unit)):=
 match s_ with
 |a=>
 (if(decide (a<(a0.length:Int)))=true then(grd (0≤a∧a<a0.length) (grd (0≤a∧a<a1.length) (if(decide ((rd a0 a)≠(rd a1 a)))=true then(some (inr (inr ())))else(some (inl (i64.wrap (a+(1:Int))))))))else(some (inr (inl ()))))
noncomputable def QkP (a0:(List Int)) (a1:(List Int)):Option Bool:=
 (if(decide ((a0.length:Int)≠(a1.length:Int)))=true then(some false)else((((iter (QfN a0 a1) (0:Int)).bind (Sum.elim (fun _=>(some (inl ()))) (fun _=>(((some false)).bind fun r=>some (inr r))))):Option (Unit⊕Bool)).bind (Sum.elim (fun _=>(some true)) some)))
def QsM (a0:(List Int)) (a1:(List Int)) (b c:Value):Bool→Value→IM→HL→Prop:=
 fun(a:Bool) (v:Value) (M':IM) (H':HL)=>(.bool a)=v∧H'=[]
theorem Qu6 (a0:(List Int)) (a1:(List Int)) (M:IM) (k r:Value) (s:RS (Kd.int .u8) M k a0) (z:RS (Kd.int .u8) M r a1) (res:Bool) (h:QkP a0 a1=some res):
 Tri prog 13 #[k,r] M [] (QsM a0 a1 k r res):=by
 unfold QkP at h
 refine Te func13 Z Z ?_
 intro F ρ hρ
 refine Sr (qa (Bv false) (Nt (Cs (Sr (qM k (hρ 0) (qu (Iv (a0.length:Int)) (lenS underlying38 Z s.len) (qM r (hρ 1) (qu (Iv (a1.length:Int)) (lenS underlying38 Z z.len) (qu (Bv (decide ((a0.length:Int)≠(a1.length:Int)))) (neq Z Z) (Nt (Ch h Z (fun t h=> ?_) (fun t h=> ?_))))))))))))
 exact Sr (qa (Bv false) (Nt (Cr (Tr (Rf h [] Z (Rs Z Z) lr ⟨Z,Z⟩)))))
 refine Ck (Tc ?_)
 obtain ⟨A,u,h⟩:=bnd h
 refine WC.joinE (fun(_:Unit) ρ' M' H'=>M.le M'∧F=H') A ?_ ?_
 have v:=h
 have h:=u
 refine Sr (qa (Iv 0) (Nt (Bk ?_)))
 obtain ⟨G,w,j⟩:=bnd h
 clear h
 refine WC.loop w (fun(a:Int) ρ' M' H'=>M.le M'∧F=H'∧ρ' 0=k∧ρ' 1=r∧ρ' 5=(Iv a)) ?_ ?_
 exact⟨lr,Z,(hρ 0),(hρ 1),Z⟩
 rintro a I J K L h ⟨c,rfl,d,f,b⟩
 unfold QfN at h
 refine Cs (Sr (qM (Iv a) b (qM k d ?_)))
 have s:=s.mono c
 refine qu (Iv (a0.length:Int)) (lenS underlying38 Z s.len) (qu (Bv (decide (a<(a0.length:Int)))) (lss Z Z) (Nt (Ch h Z (fun x h=> ?_) (fun x h=> ?_))))
 refine Ck (Tc (Cs (Bk (Cs (WC.draw [0,0,3,7,0,0,48,112,255] (.pure 0 (.pure 1 (.pure 2 (.pure 3 (.pure 4 (.pure 5 (.pure 6 (.pure 7 (.pure 8 .done))))))))) QdC (by kernel_rfl) (qt k Z (Mv d) (qt (Iv a) Z (Mv b) ?_)))))))
 obtain ⟨g,h⟩:=QaQ h
 obtain ⟨B,D,l,m,hhas31⟩:=s.at g.1 g.2 (by decide)
 obtain rfl:=m
 refine qt (.pointer (some B)) Z (indexAddr (n:=a0.length) underlying38 sz5 Z Z g.1 g.2 l) (qt (Yv (rd a0 a)) Z (loadM pl5 Z (IM.has0 hhas31)) (qt r Z (Mv f) (qt (Iv a) Z (Mv b) ?_)))
 obtain ⟨i,h⟩:=QaQ h
 have z:=z.mono c
 obtain ⟨C,E,o,p,hhas38⟩:=z.at i.1 i.2 (by decide)
 obtain rfl:=p
 refine qt (.pointer (some C)) Z (indexAddr (n:=a1.length) underlying38 sz5 Z Z i.1 i.2 o) (qt (Yv (rd a1 a)) Z (loadM pl5 Z (IM.has0 hhas38)) (qt (Bv (decide ((rd a0 a)≠(rd a1 a)))) Z (neq Z Z) (Ti (Tc (Ch h Z (fun y h=> ?_) (fun y h=> ?_))))))
 refine Sr (qa (Bv false) (Nt (Cr (Br (Tr (WQ.leaveR (inr ()) (oi h).symm (fun e=> ?_)))))))
 subst e
 have h:=(QdO j)
 refine Br (Tr ?_)
 have h:=KK.early h v
 exact Rf h [] Z (Rs Z Z) c ⟨Z,Z⟩
 exact Ck (Bn (Tc (Cg (qM (Iv a) b (qu (Iv (i64.wrap (a+1))) (add Z Z) (qa (Iv (i64.wrap (a+1))) (Wz (WQ.again (i64.wrap (a+1)) (oi h).symm ⟨c,Z,d,f,Z⟩))))))))
 refine WC.exit (WQ.thenE (WQ.leaveE (inl ()) (oi h).symm (fun e=> ?_)))
 subst e
 have h:=QeJ j
 exact WQ.blockH (WQ.thenFE h ⟨c,Z⟩)
 rintro _ N O P rfl ⟨q,rfl⟩
 have h:=(Sum.elim_inl _ _ _).symm.trans h
 exact Sr (qa (Bv true) (Nt (Cr (Rf h [] Z (Rs Z Z) q ⟨Z,Z⟩))))
noncomputable def QdV (a0:QaC) (a1:QaC) (s_:Int):Option (Int⊕(Unit⊕Unit)):=
 match s_ with
 |a=>
 (if(decide (a<(a0.Parts.length:Int)))=true then(grd (0≤a∧a<a0.Parts.length) (grd (0≤a∧a<a1.Parts.length) ((QdQ (rd a0.Parts a) (rd a1.Parts a)).bind fun b=>(if(!b)=true then(some (inr (inr ())))else(some (inl (i64.wrap (a+(1:Int)))))))))else(some (inr (inl ()))))
noncomputable def QfO (a0:QaC) (a1:QaC):Option Bool:=
 (((if(decide (a0.Id≠a1.Id))=true then(some true)else(if(!decide (a0.Name=a1.Name))=true then(some true)else(some (decide ((a0.Parts.length:Int)≠(a1.Parts.length:Int)))))):Option Bool).bind fun a=>(if a=true then(some false)else((((iter (QdV a0 a1) (0:Int)).bind (Sum.elim (fun _=>(some (inl ()))) (fun _=>(((some false)).bind fun r=>some (inr r))))):Option (Unit⊕Bool)).bind (Sum.elim (fun _=>(some true)) some))))
def Qm9 (a0:QaC) (a1:QaC) (a b:Value):Bool→Value→IM→HL→Prop:=
 fun(c:Bool) (v:Value) (M':IM) (H':HL)=>(.bool c)=v∧H'=[]
theorem Qo3 (a0:QaC) (a1:QaC) (M:IM) (a d:Value) (m:RS QbF M a a0.Parts) (p:RS QbF M d a1.Parts) (res:Bool) (h:QfO a0 a1=some res):
 Tri prog 60 #[(a55_ a0 a),(a55_ a1 d)] M [] (Qm9 a0 a1 a d res):=by
 unfold QfO at h
 refine Te func60 Z Z ?_
 intro F ρ hρ
 refine Sr (We (box (cs:=(l55 a0 a).toArray) (congrArg Value.cells (asE (a55_ a0 a) (hρ 0)))) Z ?_)
 rintro _ _ _ - ⟨rfl,j,rfl,rfl⟩
 refine We (box (cs:=(l55 a1 d).toArray) (congrArg Value.cells (asE (a55_ a1 d) (hρ 1)))) Z ?_
 rintro _ _ _ - ⟨rfl,k,rfl,rfl⟩
 refine qa (Bv false) (Nt (Cs ?_))
 obtain ⟨R,X,h⟩:=bnd h
 refine Jf (fun(R:Bool) ρ' M' H'=>M.le M'∧[(k, .cells (l55 a1 d).toArray 55 (0,0))]::[(j, .cells (l55 a0 a).toArray 55 (0,0))]::F=H'∧ρ' 2=(pt j 0)∧ρ' 3=(pt k 0)∧ρ' 26=(Bv R)) R ?_ ?_
 have h:=X
 refine Cg (qu (pt j 0) (Fa Qk0 Z Z) (qu (Iv a0.Id) (Lb 1 pl3 Z Z Z) (qu (pt k 0) (Fa Qk0 Z Z) (qu (Iv a1.Id) (Lb 0 pl3 Z Z Z) (qu (Bv (decide (a0.Id≠a1.Id))) (neq Z Z) (qm (Bv (decide (a0.Id≠a1.Id))) ?_))))))
 rcases Bi h with⟨e,h⟩ |⟨e,h⟩
 iterate 5 refine Of 11 Z Z e Z ?_
 refine qu (Bv true) (Pt Z e Z) (qm (Bv true) ?_)
 iterate 7 refine Of 18 Z Z Z Z ?_
 refine qu (Bv true) (Pt Z Z Z) (Wz ?_)
 obtain rfl:=oi h
 exact Tj ⟨lr,Z,Z,Z,Z⟩
 refine qo 11 e (pt j 1) (Fa QlP Z Z) (qo 11 e (Sv a0.Name) (Lb 1 pl9 Z Z Z) (qo 11 e (pt k 1) (Fa QlP Z Z) (qo 11 e (Sv a1.Name) (Lb 0 pl9 Z Z Z) (qo 11 e (Bv (!decide (a0.Name=a1.Name))) (sneq Z Z) (qu (Bv (!decide (a0.Name=a1.Name))) (Pf Z e Z) (qm (Bv (!decide (a0.Name=a1.Name))) ?_))))))
 rcases Bi h with⟨b,h⟩ |⟨b,h⟩
 iterate 7 refine Of 18 Z Z b Z ?_
 refine qu (Bv true) (Pt Z b Z) (Wz ?_)
 obtain rfl:=oi h
 exact Tj ⟨lr,Z,Z,Z,Z⟩
 refine qo 18 b (pt j 2) (Fa QdB Z Z) (qo 18 b a (Lb 1 pl53 Z Z Z) (qo 18 b (Iv (a0.Parts.length:Int)) (lenS underlying53 Z m.len) (qo 18 b (pt k 2) (Fa QdB Z Z) (qo 18 b d (Lb 0 pl53 Z Z Z) (qo 18 b (Iv (a1.Parts.length:Int)) (lenS underlying53 Z p.len) (qo 18 b (Bv (decide ((a0.Parts.length:Int)≠(a1.Parts.length:Int)))) (neq Z Z) (qu (Bv (decide ((a0.Parts.length:Int)≠(a1.Parts.length:Int)))) (Pf Z b Z) (Wz ?_))))))))
 obtain rfl:=oi h
 exact Tj ⟨lr,Z,Z,Z,Z⟩
 rintro b5 Y b6 ⟨g,rfl,D,E,B⟩
 refine Ch h B (fun a2 h=> ?_) (fun a2 h=> ?_)
 exact Sr (qa (Bv false) (Nt (Cr (Tr (Dr (Dr (Rf h [] Z (Rs Z Z) g ⟨Z,Z⟩)))))))
 refine Ck (Tc ?_)
 obtain ⟨b0,a3,h⟩:=bnd h
 refine WC.joinE (fun(_:Unit) ρ' M' H'=>Y.le M'∧[(k, .cells (l55 a1 d).toArray 55 (0,0))]::[(j, .cells (l55 a0 a).toArray 55 (0,0))]::F=H') b0 ?_ ?_
 have a4:=h
 have h:=a3
 refine Sr (qa (Iv 0) (Nt (Bk ?_)))
 obtain ⟨b7,a5,Q⟩:=bnd h
 clear h
 refine WC.loop a5 (fun(c:Int) ρ' M' H'=>Y.le M'∧[(k, .cells (l55 a1 d).toArray 55 (0,0))]::[(j, .cells (l55 a0 a).toArray 55 (0,0))]::F=H'∧ρ' 2=(pt j 0)∧ρ' 3=(pt k 0)∧ρ' 5=(Iv c)) ?_ ?_
 exact⟨lr,Z,D,E,Z⟩
 rintro c b8 b9 c0 c1 h ⟨i,rfl,l,q,f⟩
 unfold QdV at h
 refine Cs (Sr (qM (Iv c) f (qu (pt j 2) (Fa QdB l Z) (qu a (Lb 1 pl53 Z Z Z) ?_))))
 have m:=m.mono (g.trans i)
 refine qu (Iv (a0.Parts.length:Int)) (lenS underlying53 Z m.len) (qu (Bv (decide (c<(a0.Parts.length:Int)))) (lss Z Z) (Nt (Ch h Z (fun a6 h=> ?_) (fun a6 h=> ?_))))
 refine Ck (Tc (Cs (Bk (Cs (WC.draw [0,1,0,7,15,0,32,0,224,480,1023,2047] (.pure 0 (.pure 1 (.pure 2 (.pure 3 (.pure 4 (.pure 5 (.pure 6 (.pure 7 (.pure 8 (.pure 9 (.alt 10 (.pure 11 .done) .none))))))))))) QdC (by kernel_rfl) (qt (pt j 2) Z (Fa QdB l Z) (qt a Z (Lb 1 pl53 Z Z Z) (qt (Iv c) Z (Mv f) ?_))))))))
 obtain ⟨r,h⟩:=QaQ h
 obtain ⟨b1,b3,S,T,hhas37⟩:=m.at r.1 r.2 (by decide)
 obtain ⟨s,t,u,v,rfl,G,I,J,K⟩:=Qb7 T
 refine qt (.pointer (some b1)) Z (indexAddr (n:=a0.Parts.length) underlying53 sz58 Z Z r.1 r.2 S) (qt (a58_ (rd a0.Parts c) s t u v) Z (loadMA (cs:=(l58 (rd a0.Parts c) s t u v)) ag58 sz58 Z hhas37) (qt (pt k 2) Z (Fa QdB q Z) (qt d Z (Lb 0 pl53 Z Z Z) (qt (Iv c) Z (Mv f) ?_))))
 obtain ⟨w,h⟩:=QaQ h
 have p:=p.mono (g.trans i)
 obtain ⟨b2,b4,U,V,hhas44⟩:=p.at w.1 w.2 (by decide)
 obtain ⟨x,y,z,A,rfl,L,N,O,P⟩:=Qb7 V
 refine qt (.pointer (some b2)) Z (indexAddr (n:=a1.Parts.length) underlying53 sz58 Z Z w.1 w.2 U) (qt (a58_ (rd a1.Parts c) x y z A) Z (loadMA (cs:=(l58 (rd a1.Parts c) x y z A)) ag58 sz58 Z hhas44) ?_)
 obtain ⟨a7,a8,h⟩:=bnd h
 refine Ta Z (Ca co86 (QlC (rd a0.Parts c) (rd a1.Parts c) _ _ _ _ _ _ _ _ _ G I J K L N O P a7 a8) (QaU Z Z)) Z ?_ ?_
 rintro _ c2 _ C ⟨_,⟨rfl,rfl⟩,rfl⟩
 refine⟨(Sl Z), ?_⟩
 refine WT.a0 (qt (Bv (!a7)) Z (PO.not Z) (Ti (Tc (Ch h Z (fun a9 h=> ?_) (fun a9 h=> ?_)))))
 refine Sr (qa (Bv false) (Nt (Cr (Br (Tr (WQ.leaveR (inr ()) (oi h).symm (fun o=> ?_)))))))
 subst o
 have h:=(QdO Q)
 refine Br (Tr ?_)
 have h:=KK.early h a4
 exact Dr (Dr (Rf h [] Z (Rs Z Z) ((g.trans i).trans C) ⟨Z,Z⟩))
 exact Ck (Bn (Tc (Cg (qM (Iv c) f (qu (Iv (i64.wrap (c+1))) (add Z Z) (qa (Iv (i64.wrap (c+1))) (Wz (WQ.again (i64.wrap (c+1)) (oi h).symm ⟨(i.trans C),Z,l,q,Z⟩))))))))
 exact Tz
 refine WC.exit (WQ.thenE (WQ.leaveE (inl ()) (oi h).symm (fun o=> ?_)))
 subst o
 have h:=QeJ Q
 exact WQ.blockH (WQ.thenFE h ⟨i,Z⟩)
 rintro _ c3 c4 c5 rfl ⟨W,rfl⟩
 have h:=(Sum.elim_inl _ _ _).symm.trans h
 exact Sr (qa (Bv true) (Nt (Cr (Dr (Dr (Rf h [] Z (Rs Z Z) (g.trans W) ⟨Z,Z⟩))))))

end Go.Proofs.YtpcbipcdfccnnaaGreatDoor.G
