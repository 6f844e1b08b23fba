/- Go functions: what they come to, and that they do. Printed by a program of the session (gen). -/
import Derived.Test.YtfkmkgpoddbbfaaGreatDoorRF
import Derived.Test.YtfkmkgpoddbbfaaGreatDoorR3
import Derived.Test.YtfkmkgpoddbbfaaGreatDoorR4
import Derived.Test.YtfkmkgpoddbbfaaGreatDoorKShar2
import Derived.Test.YtfkmkgpoddbbfaaGreatDoorKConv
import Derived.Test.YtfkmkgpoddbbfaaGreatDoorKMap
import Derived.Test.YtfkmkgpoddbbfaaGreatDoorKTight2
set_option linter.unusedVariables false
set_option linter.unusedSimpArgs false
set_option maxHeartbeats 8000000
set_option maxRecDepth 100000
namespace Go.Proofs.YtfkmkgpoddbbfaaGreatDoor.G
open Go Go.KK
open PO EO IntKind Sum Tryz

noncomputable def QlX (a0:(List Int)) (a1:Int):Option (List Int):=
 (if(decide ((if(4611686018427387903:Int)<a1 then(4611686018427387903:Int)else a1)<(64:Int)))=true then(grd (a0.length+[u8.wrap (if(4611686018427387903:Int)<a1 then(4611686018427387903:Int)else a1)].length≤274877906944) (some (a0++[u8.wrap (if(4611686018427387903:Int)<a1 then(4611686018427387903:Int)else a1)])))else(if(decide ((if(4611686018427387903:Int)<a1 then(4611686018427387903:Int)else a1)<(16384:Int)))=true then(grd (a0.length+[orI .u8 (64:Int) (u8.wrap (shrI .u64 (if(4611686018427387903:Int)<a1 then(4611686018427387903:Int)else a1) (8:Int))),u8.wrap (if(4611686018427387903:Int)<a1 then(4611686018427387903:Int)else a1)].length≤274877906944) (some (a0++[orI .u8 (64:Int) (u8.wrap (shrI .u64 (if(4611686018427387903:Int)<a1 then(4611686018427387903:Int)else a1) (8:Int))),u8.wrap (if(4611686018427387903:Int)<a1 then(4611686018427387903:Int)else a1)])))else(if(decide ((if(4611686018427387903:Int)<a1 then(4611686018427387903:Int)else a1)<(1073741824:Int)))=true then(grd (a0.length+[orI .u8 (128:Int) (u8.wrap (shrI .u64 (if(4611686018427387903:Int)<a1 then(4611686018427387903:Int)else a1) (24:Int))),u8.wrap (shrI .u64 (if(4611686018427387903:Int)<a1 then(4611686018427387903:Int)else a1) (16:Int)),u8.wrap (shrI .u64 (if(4611686018427387903:Int)<a1 then(4611686018427387903:Int)else a1) (8:Int)),u8.wrap (if(4611686018427387903:Int)<a1 then(4611686018427387903:Int)else a1)].length≤274877906944) (some (a0++[orI .u8 (128:Int) (u8.wrap (shrI .u64 (if(4611686018427387903:Int)<a1 then(4611686018427387903:Int)else a1) (24:Int))),u8.wrap (shrI .u64 (if(4611686018427387903:Int)<a1 then(4611686018427387903:Int)else a1) (16:Int)),u8.wrap (shrI .u64 (if(4611686018427387903:Int)<a1 then(4611686018427387903:Int)else a1) (8:Int)),u8.wrap (if(4611686018427387903:Int)<a1 then(4611686018427387903:Int)else a1)])))else(grd (a0.length+[orI .u8 (192:Int) (u8.wrap (shrI .u64 (if(4611686018427387903:Int)<a1 then(4611686018427387903:Int)else a1) (56:Int))),u8.wrap (shrI .u64 (if(4611686018427387903:Int)<a1 then(4611686018427387903:Int)else a1) (48:Int)),u8.wrap (shrI .u64 (if(4611686018427387903:Int)<a1 then(4611686018427387903:Int)else a1) (40:Int)),u8.wrap (shrI .u64 (if(4611686018427387903:Int)<a1 then(4611686018427387903:Int)else a1) (32:Int)),u8.wrap (shrI .u64 (if(4611686018427387903:Int)<a1 then(4611686018427387903:Int)else a1) (24:Int)),u8.wrap (shrI .u64 (if(4611686018427387903:Int)<a1 then(4611686018427387903:Int)else a1) (16:Int)),u8.wrap (shrI .u64 (if(4611686018427387903:Int)<a1 then(4611686018427387903:Int)else a1) (8:Int)),u8.wrap (if(4611686018427387903:Int)<a1 then(4611686018427387903:Int)else a1)].length≤274877906944) (some (a0++[orI .u8 (192:Int) (u8.wrap (shrI .u64 (if(4611686018427387903:Int)<a1 then(4611686018427387903:Int)else a1) (56:Int))),u8.wrap (shrI .u64 (if(4611686018427387903:Int)<a1 then(4611686018427387903:Int)else a1) (48:Int)),u8.wrap (shrI .u64 (if(4611686018427387903:Int)<a1 then(4611686018427387903:Int)else a1) (40:Int)),u8.wrap (shrI .u64 (if(4611686018427387903:Int)<a1 then(4611686018427387903:Int)else a1) (32:Int)),u8.wrap (shrI .u64 (if(4611686018427387903:Int)<a1 then(4611686018427387903:Int)else a1) (24:Int)),u8.wrap (shrI .u64 (if(4611686018427387903:Int)<a1 then(4611686018427387903:Int)else a1) (16:Int)),u8.wrap (shrI .u64 (if(4611686018427387903:Int)<a1 then(4611686018427387903:Int)else a1) (8:Int)),u8.wrap (if(4611686018427387903:Int)<a1 then(4611686018427387903:Int)else a1)]))))))
def QuZ (a0:(List Int)) (a1:Int) (f:Value):(List Int)→Value→IM→HL→Prop:=
 fun(c:(List Int)) (v:Value) (d:IM) (e:HL)=>∃ a b,a=v∧e=[b]∧OwnS (Kd.int .u8) d a c b
theorem QwV (a0:(List Int)) (a1:Int) (M:IM) (a:Value) (I:QaV) (x:OwnS (Kd.int .u8) M a a0 I) (b:(List Int)) (h:QlX a0 a1=some b):
 Tri prog 70 #[a,(Uv a1)] M [I] (QuZ a0 a1 a b):=by
 unfold QlX at h
 refine Te func70 Z Z ?_
 intro F J c
 refine Sr (qa Zs (Ns (qM (Uv a1) (c 1) (qu (Uv (mn 4611686018427387903 a1)) (PO.min Z Z) (qa (Uv (mn 4611686018427387903 a1)) (Nt (Cs (Bk (Sr (qm (Uv (mn 4611686018427387903 a1)) (qu (Bv (decide ((mn 4611686018427387903 a1)<64))) (lss Z Z) ?_)))))))))))
 refine qa (Bv (decide ((mn 4611686018427387903 a1)<64))) (Nt (Ch h Z (fun d h=> ?_) (fun d h=> ?_)))
 refine Sr (qM a (c 0) (qm (Uv (mn 4611686018427387903 a1)) (qu (Yv (u8.wrap (mn 4611686018427387903 a1))) (conv QlR underlying5 Z) (We (buildSliceL (cl:=[(Yv (u8.wrap (mn 4611686018427387903 a1)))]) underlying22 iz5 Z (Pc (Yv (u8.wrap (mn 4611686018427387903 a1))) Z Z Pz) Z) Z ?_))))
 rintro _ _ _ - ⟨rfl,e,rfl,rfl⟩
 have y:OwnS (Kd.int .u8) M (.slice (some ⟨e,0,none⟩) 1 1) [u8.wrap (mn 4611686018427387903 a1)] [(e, .cells #[(Yv (u8.wrap (mn 4611686018427387903 a1)))] 5 (0,0))]:=OwnS.rows (css:=[[(Yv (u8.wrap (mn 4611686018427387903 a1)))]]) (Rows.cons Z Rows.nil) Z Z
 obtain ⟨f,h⟩:=Qa1 h
 refine WL.f1 (We (append (dd:=(Kd.int .u8)) (xs:=a0) (ys:=[u8.wrap (mn 4611686018427387903 a1)]) underlying22 underlying22 in5 Z (appB (by decide) f) (by decide) Z Z x (y.src 1 Z)) Z ?_)
 rintro g _ _ - ⟨rfl,i,rfl,z⟩
 exact qa g (Nt (Cr (Br (Tr (Qa (Dr (Rf h [i] Z (Rs Z Z) lr ⟨g,i,Z,Z,z⟩)))))))
 refine Sr (qm (Uv (mn 4611686018427387903 a1)) (qu (Bv (decide ((mn 4611686018427387903 a1)<16384))) (lss Z Z) (qa (Bv (decide ((mn 4611686018427387903 a1)<16384))) (Nt (Ch h Z (fun j h=> ?_) (fun j h=> ?_))))))
 refine Sr (qM a (c 0) (qm (Uv (mn 4611686018427387903 a1)) (qu (Uv (shrI .u64 (mn 4611686018427387903 a1) (8:Int))) (shr Z Z (by decide)) (qu (Yv (u8.wrap (shrI .u64 (mn 4611686018427387903 a1) (8:Int)))) (conv QlR underlying5 Z) (qu (Yv (orI .u8 64 (u8.wrap (shrI .u64 (mn 4611686018427387903 a1) (8:Int))))) (PO.or Z Z) (qm (Uv (mn 4611686018427387903 a1)) (qu (Yv (u8.wrap (mn 4611686018427387903 a1))) (conv QlR underlying5 Z) (We (buildSliceL (cl:=[(Yv (orI .u8 64 (u8.wrap (shrI .u64 (mn 4611686018427387903 a1) (8:Int))))),(Yv (u8.wrap (mn 4611686018427387903 a1)))]) underlying22 iz5 Z (Pc (Yv (orI .u8 64 (u8.wrap (shrI .u64 (mn 4611686018427387903 a1) (8:Int))))) Z Z (Pc (Yv (u8.wrap (mn 4611686018427387903 a1))) Z Z Pz)) Z) Z ?_))))))))
 rintro _ _ _ - ⟨rfl,k,rfl,rfl⟩
 have A:OwnS (Kd.int .u8) M (.slice (some ⟨k,0,none⟩) 2 2) [orI .u8 64 (u8.wrap (shrI .u64 (mn 4611686018427387903 a1) (8:Int))),u8.wrap (mn 4611686018427387903 a1)] [(k, .cells #[(Yv (orI .u8 64 (u8.wrap (shrI .u64 (mn 4611686018427387903 a1) (8:Int))))),(Yv (u8.wrap (mn 4611686018427387903 a1)))] 5 (0,0))]:=OwnS.rows (css:=[[(Yv (orI .u8 64 (u8.wrap (shrI .u64 (mn 4611686018427387903 a1) (8:Int)))))],[(Yv (u8.wrap (mn 4611686018427387903 a1)))]]) (Rows.cons Z (Rows.cons Z Rows.nil)) Z Z
 obtain ⟨l,h⟩:=Qa1 h
 refine WL.f1 (We (append (dd:=(Kd.int .u8)) (xs:=a0) (ys:=[orI .u8 64 (u8.wrap (shrI .u64 (mn 4611686018427387903 a1) (8:Int))),u8.wrap (mn 4611686018427387903 a1)]) underlying22 underlying22 in5 Z (appB (by decide) l) (by decide) Z Z x (A.src 1 Z)) Z ?_)
 rintro m _ _ - ⟨rfl,n,rfl,B⟩
 exact qa m (Nt (Cr (Br (Tr (Qa (Dr (Rf h [n] Z (Rs Z Z) lr ⟨m,n,Z,Z,B⟩)))))))
 refine Sr (qm (Uv (mn 4611686018427387903 a1)) (qu (Bv (decide ((mn 4611686018427387903 a1)<1073741824))) (lss Z Z) (qa (Bv (decide ((mn 4611686018427387903 a1)<1073741824))) (Nt (Ch h Z (fun o h=> ?_) (fun o h=> ?_))))))
 refine Sr (qM a (c 0) (qm (Uv (mn 4611686018427387903 a1)) (qu (Uv (shrI .u64 (mn 4611686018427387903 a1) (24:Int))) (shr Z Z (by decide)) (qu (Yv (u8.wrap (shrI .u64 (mn 4611686018427387903 a1) (24:Int)))) (conv QlR underlying5 Z) (qu (Yv (orI .u8 128 (u8.wrap (shrI .u64 (mn 4611686018427387903 a1) (24:Int))))) (PO.or Z Z) (qm (Uv (mn 4611686018427387903 a1)) (qu (Uv (shrI .u64 (mn 4611686018427387903 a1) (16:Int))) (shr Z Z (by decide)) (qu (Yv (u8.wrap (shrI .u64 (mn 4611686018427387903 a1) (16:Int)))) (conv QlR underlying5 Z) (qm (Uv (mn 4611686018427387903 a1)) (qu (Uv (shrI .u64 (mn 4611686018427387903 a1) (8:Int))) (shr Z Z (by decide)) (qu (Yv (u8.wrap (shrI .u64 (mn 4611686018427387903 a1) (8:Int)))) (conv QlR underlying5 Z) ?_)))))))))))
 refine qm (Uv (mn 4611686018427387903 a1)) (qu (Yv (u8.wrap (mn 4611686018427387903 a1))) (conv QlR underlying5 Z) (We (buildSliceL (cl:=[(Yv (orI .u8 128 (u8.wrap (shrI .u64 (mn 4611686018427387903 a1) (24:Int))))),(Yv (u8.wrap (shrI .u64 (mn 4611686018427387903 a1) (16:Int)))),(Yv (u8.wrap (shrI .u64 (mn 4611686018427387903 a1) (8:Int)))),(Yv (u8.wrap (mn 4611686018427387903 a1)))]) underlying22 iz5 Z (Pc (Yv (orI .u8 128 (u8.wrap (shrI .u64 (mn 4611686018427387903 a1) (24:Int))))) Z Z (Pc (Yv (u8.wrap (shrI .u64 (mn 4611686018427387903 a1) (16:Int)))) Z Z (Pc (Yv (u8.wrap (shrI .u64 (mn 4611686018427387903 a1) (8:Int)))) Z Z (Pc (Yv (u8.wrap (mn 4611686018427387903 a1))) Z Z Pz)))) Z) Z ?_))
 rintro _ _ _ - ⟨rfl,p,rfl,rfl⟩
 have C:OwnS (Kd.int .u8) M (.slice (some ⟨p,0,none⟩) 4 4) [orI .u8 128 (u8.wrap (shrI .u64 (mn 4611686018427387903 a1) (24:Int))),u8.wrap (shrI .u64 (mn 4611686018427387903 a1) (16:Int)),u8.wrap (shrI .u64 (mn 4611686018427387903 a1) (8:Int)),u8.wrap (mn 4611686018427387903 a1)] [(p, .cells #[(Yv (orI .u8 128 (u8.wrap (shrI .u64 (mn 4611686018427387903 a1) (24:Int))))),(Yv (u8.wrap (shrI .u64 (mn 4611686018427387903 a1) (16:Int)))),(Yv (u8.wrap (shrI .u64 (mn 4611686018427387903 a1) (8:Int)))),(Yv (u8.wrap (mn 4611686018427387903 a1)))] 5 (0,0))]:=OwnS.rows (css:=[[(Yv (orI .u8 128 (u8.wrap (shrI .u64 (mn 4611686018427387903 a1) (24:Int)))))],[(Yv (u8.wrap (shrI .u64 (mn 4611686018427387903 a1) (16:Int))))],[(Yv (u8.wrap (shrI .u64 (mn 4611686018427387903 a1) (8:Int))))],[(Yv (u8.wrap (mn 4611686018427387903 a1)))]]) (Rows.cons Z (Rows.cons Z (Rows.cons Z (Rows.cons Z Rows.nil)))) Z Z
 obtain ⟨q,h⟩:=Qa1 h
 refine WL.f1 (We (append (dd:=(Kd.int .u8)) (xs:=a0) (ys:=[orI .u8 128 (u8.wrap (shrI .u64 (mn 4611686018427387903 a1) (24:Int))),u8.wrap (shrI .u64 (mn 4611686018427387903 a1) (16:Int)),u8.wrap (shrI .u64 (mn 4611686018427387903 a1) (8:Int)),u8.wrap (mn 4611686018427387903 a1)]) underlying22 underlying22 in5 Z (appB (by decide) q) (by decide) Z Z x (C.src 1 Z)) Z ?_)
 rintro r _ _ - ⟨rfl,s,rfl,D⟩
 exact qa r (Nt (Cr (Br (Tr (Qa (Dr (Rf h [s] Z (Rs Z Z) lr ⟨r,s,Z,Z,D⟩)))))))
 refine Ck (Bn (Tc (Sr (qM a (c 0) (qm (Uv (mn 4611686018427387903 a1)) (qu (Uv (shrI .u64 (mn 4611686018427387903 a1) (56:Int))) (shr Z Z (by decide)) (qu (Yv (u8.wrap (shrI .u64 (mn 4611686018427387903 a1) (56:Int)))) (conv QlR underlying5 Z) (qu (Yv (orI .u8 192 (u8.wrap (shrI .u64 (mn 4611686018427387903 a1) (56:Int))))) (PO.or Z Z) (qm (Uv (mn 4611686018427387903 a1)) (qu (Uv (shrI .u64 (mn 4611686018427387903 a1) (48:Int))) (shr Z Z (by decide)) (qu (Yv (u8.wrap (shrI .u64 (mn 4611686018427387903 a1) (48:Int)))) (conv QlR underlying5 Z) ?_)))))))))))
 refine qm (Uv (mn 4611686018427387903 a1)) (qu (Uv (shrI .u64 (mn 4611686018427387903 a1) (40:Int))) (shr Z Z (by decide)) (qu (Yv (u8.wrap (shrI .u64 (mn 4611686018427387903 a1) (40:Int)))) (conv QlR underlying5 Z) (qm (Uv (mn 4611686018427387903 a1)) (qu (Uv (shrI .u64 (mn 4611686018427387903 a1) (32:Int))) (shr Z Z (by decide)) (qu (Yv (u8.wrap (shrI .u64 (mn 4611686018427387903 a1) (32:Int)))) (conv QlR underlying5 Z) (qm (Uv (mn 4611686018427387903 a1)) (qu (Uv (shrI .u64 (mn 4611686018427387903 a1) (24:Int))) (shr Z Z (by decide)) (qu (Yv (u8.wrap (shrI .u64 (mn 4611686018427387903 a1) (24:Int)))) (conv QlR underlying5 Z) (qm (Uv (mn 4611686018427387903 a1)) (qu (Uv (shrI .u64 (mn 4611686018427387903 a1) (16:Int))) (shr Z Z (by decide)) (qu (Yv (u8.wrap (shrI .u64 (mn 4611686018427387903 a1) (16:Int)))) (conv QlR underlying5 Z) ?_)))))))))))
 refine qm (Uv (mn 4611686018427387903 a1)) (qu (Uv (shrI .u64 (mn 4611686018427387903 a1) (8:Int))) (shr Z Z (by decide)) (qu (Yv (u8.wrap (shrI .u64 (mn 4611686018427387903 a1) (8:Int)))) (conv QlR underlying5 Z) (qm (Uv (mn 4611686018427387903 a1)) (qu (Yv (u8.wrap (mn 4611686018427387903 a1))) (conv QlR underlying5 Z) (We (buildSliceL (cl:=[(Yv (orI .u8 192 (u8.wrap (shrI .u64 (mn 4611686018427387903 a1) (56:Int))))),(Yv (u8.wrap (shrI .u64 (mn 4611686018427387903 a1) (48:Int)))),(Yv (u8.wrap (shrI .u64 (mn 4611686018427387903 a1) (40:Int)))),(Yv (u8.wrap (shrI .u64 (mn 4611686018427387903 a1) (32:Int)))),(Yv (u8.wrap (shrI .u64 (mn 4611686018427387903 a1) (24:Int)))),(Yv (u8.wrap (shrI .u64 (mn 4611686018427387903 a1) (16:Int)))),(Yv (u8.wrap (shrI .u64 (mn 4611686018427387903 a1) (8:Int)))),(Yv (u8.wrap (mn 4611686018427387903 a1)))]) underlying22 iz5 Z (Pc (Yv (orI .u8 192 (u8.wrap (shrI .u64 (mn 4611686018427387903 a1) (56:Int))))) Z Z (Pc (Yv (u8.wrap (shrI .u64 (mn 4611686018427387903 a1) (48:Int)))) Z Z (Pc (Yv (u8.wrap (shrI .u64 (mn 4611686018427387903 a1) (40:Int)))) Z Z (Pc (Yv (u8.wrap (shrI .u64 (mn 4611686018427387903 a1) (32:Int)))) Z Z (Pc (Yv (u8.wrap (shrI .u64 (mn 4611686018427387903 a1) (24:Int)))) Z Z (Pc (Yv (u8.wrap (shrI .u64 (mn 4611686018427387903 a1) (16:Int)))) Z Z (Pc (Yv (u8.wrap (shrI .u64 (mn 4611686018427387903 a1) (8:Int)))) Z Z (Pc (Yv (u8.wrap (mn 4611686018427387903 a1))) Z Z Pz)))))))) Z) Z ?_)))))
 rintro _ _ _ - ⟨rfl,t,rfl,rfl⟩
 have E:OwnS (Kd.int .u8) M (.slice (some ⟨t,0,none⟩) 8 8) [orI .u8 192 (u8.wrap (shrI .u64 (mn 4611686018427387903 a1) (56:Int))),u8.wrap (shrI .u64 (mn 4611686018427387903 a1) (48:Int)),u8.wrap (shrI .u64 (mn 4611686018427387903 a1) (40:Int)),u8.wrap (shrI .u64 (mn 4611686018427387903 a1) (32:Int)),u8.wrap (shrI .u64 (mn 4611686018427387903 a1) (24:Int)),u8.wrap (shrI .u64 (mn 4611686018427387903 a1) (16:Int)),u8.wrap (shrI .u64 (mn 4611686018427387903 a1) (8:Int)),u8.wrap (mn 4611686018427387903 a1)] [(t, .cells #[(Yv (orI .u8 192 (u8.wrap (shrI .u64 (mn 4611686018427387903 a1) (56:Int))))),(Yv (u8.wrap (shrI .u64 (mn 4611686018427387903 a1) (48:Int)))),(Yv (u8.wrap (shrI .u64 (mn 4611686018427387903 a1) (40:Int)))),(Yv (u8.wrap (shrI .u64 (mn 4611686018427387903 a1) (32:Int)))),(Yv (u8.wrap (shrI .u64 (mn 4611686018427387903 a1) (24:Int)))),(Yv (u8.wrap (shrI .u64 (mn 4611686018427387903 a1) (16:Int)))),(Yv (u8.wrap (shrI .u64 (mn 4611686018427387903 a1) (8:Int)))),(Yv (u8.wrap (mn 4611686018427387903 a1)))] 5 (0,0))]:=OwnS.rows (css:=[[(Yv (orI .u8 192 (u8.wrap (shrI .u64 (mn 4611686018427387903 a1) (56:Int)))))],[(Yv (u8.wrap (shrI .u64 (mn 4611686018427387903 a1) (48:Int))))],[(Yv (u8.wrap (shrI .u64 (mn 4611686018427387903 a1) (40:Int))))],[(Yv (u8.wrap (shrI .u64 (mn 4611686018427387903 a1) (32:Int))))],[(Yv (u8.wrap (shrI .u64 (mn 4611686018427387903 a1) (24:Int))))],[(Yv (u8.wrap (shrI .u64 (mn 4611686018427387903 a1) (16:Int))))],[(Yv (u8.wrap (shrI .u64 (mn 4611686018427387903 a1) (8:Int))))],[(Yv (u8.wrap (mn 4611686018427387903 a1)))]]) (Rows.cons Z (Rows.cons Z (Rows.cons Z (Rows.cons Z (Rows.cons Z (Rows.cons Z (Rows.cons Z (Rows.cons Z Rows.nil)))))))) Z Z
 obtain ⟨u,h⟩:=Qa1 h
 refine WL.f1 (We (append (dd:=(Kd.int .u8)) (xs:=a0) (ys:=[orI .u8 192 (u8.wrap (shrI .u64 (mn 4611686018427387903 a1) (56:Int))),u8.wrap (shrI .u64 (mn 4611686018427387903 a1) (48:Int)),u8.wrap (shrI .u64 (mn 4611686018427387903 a1) (40:Int)),u8.wrap (shrI .u64 (mn 4611686018427387903 a1) (32:Int)),u8.wrap (shrI .u64 (mn 4611686018427387903 a1) (24:Int)),u8.wrap (shrI .u64 (mn 4611686018427387903 a1) (16:Int)),u8.wrap (shrI .u64 (mn 4611686018427387903 a1) (8:Int)),u8.wrap (mn 4611686018427387903 a1)]) underlying22 underlying22 in5 Z (appB (by decide) u) (by decide) Z Z x (E.src 1 Z)) Z ?_)
 rintro v _ _ - ⟨rfl,w,rfl,G⟩
 exact qa v (Nt (Cr (Qa (Dr (Rf h [w] Z (Rs Z Z) lr ⟨v,w,Z,Z,G⟩)))))
noncomputable def QcL (a0:(List Int)) (a1:Int):Option (List Int):=
 ((QlX a0 (u64.wrap (if a1<(0:Int)then(0:Int)else a1))).bind fun a=>(some a))
def Qu0 (a0:(List Int)) (a1:Int) (f:Value):(List Int)→Value→IM→HL→Prop:=
 fun(c:(List Int)) (v:Value) (d:IM) (e:HL)=>∃ a b,a=v∧e=[b]∧OwnS (Kd.int .u8) d a c b
theorem Qa4 (a0:(List Int)) (a1:Int) (M:IM) (g:Value) (j:QaV) (l:OwnS (Kd.int .u8) M g a0 j) (d:(List Int)) (h:QcL a0 a1=some d):
 Tri prog 45 #[g,(Iv a1)] M [j] (Qu0 a0 a1 g d):=by
 unfold QcL at h
 refine Te func45 Z Z ?_
 intro F n k
 refine Sr (qa Zs (Ns (qM g (k 0) (qM (Iv a1) (k 1) (qu (Iv (if a1<0 then(0:Int)else a1)) (PO.max Z Z) (qu (Uv (u64.wrap (if a1<0 then(0:Int)else a1))) (conv us3 underlying109 Z) ?_))))))
 obtain ⟨i,e,h⟩:=bnd h
 refine We (Cb co70 (QwV a0 (u64.wrap (if a1<0 then(0:Int)else a1)) _ _ _ l i e) (QaS Z Z)) Z ?_
 rintro _ m _ c ⟨_,⟨a,b,rfl,rfl,f⟩,rfl⟩
 exact WL.a1 (qa a (Nt (Cr (Rf h [b] Z (Rs Z Z) c ⟨a,b,Z,Z,f⟩))))
noncomputable def QhH (a0:(List Int)) (a1:(List Int)):Option (List Int):=
 ((QcL a0 (a1.length:Int)).bind fun a=>(grd (a.length+a1.length≤274877906944) (some (a++a1))))
def QtR (a0:(List Int)) (a1:(List Int)) (f g:Value):(List Int)→Value→IM→HL→Prop:=
 fun(c:(List Int)) (v:Value) (d:IM) (e:HL)=>∃ a b,a=v∧e=[b]∧OwnS (Kd.int .u8) d a c b
theorem QbF (a0:(List Int)) (a1:(List Int)) (M:IM) (k b:Value) (o:QaV) (r:OwnS (Kd.int .u8) M k a0 o) (l:RS (Kd.int .u8) M b a1) (c:(List Int)) (h:QhH a0 a1=some c):
 Tri prog 46 #[k,b] M [o] (QtR a0 a1 k b c):=by
 unfold QhH at h
 refine Te func46 Z Z ?_
 intro F t m
 refine Sr (qa Zs (Ns (qM k (m 0) (qM b (m 1) (qu (Iv (a1.length:Int)) (lenS underlying22 Z l.len) ?_)))))
 obtain ⟨d,e,h⟩:=bnd h
 refine We (Cb co45 (Qa4 a0 (a1.length:Int) _ _ _ r d e) (QaS Z Z)) Z ?_
 rintro _ s _ a ⟨_,⟨p,q,rfl,rfl,f⟩,rfl⟩
 refine WL.a1 (qM b (m 1) ?_)
 obtain ⟨g,h⟩:=Qa1 h
 have l:=l.mono a
 refine We (append (dd:=(Kd.int .u8)) (xs:=d) (ys:=a1) underlying22 underlying22 in5 Z (appB (by decide) g) (by decide) Z Z f (l.src _)) Z ?_
 rintro i _ _ - ⟨rfl,j,rfl,n⟩
 exact qa i (Nt (Cr (Rf h [j] Z (Rs Z Z) a ⟨i,j,Z,Z,n⟩)))
noncomputable def QjJ (a0:(List Int)) (a1:Bool):Option (List Int):=
 (if a1=true then(grd (a0.length+[(1:Int)].length≤274877906944) (some (a0++[(1:Int)])))else(grd (a0.length+[(0:Int)].length≤274877906944) (some (a0++[(0:Int)]))))
def QtS (a0:(List Int)) (a1:Bool) (f:Value):(List Int)→Value→IM→HL→Prop:=
 fun(c:(List Int)) (v:Value) (d:IM) (e:HL)=>∃ a b,a=v∧e=[b]∧OwnS (Kd.int .u8) d a c b
theorem Qo9 (a0:(List Int)) (a1:Bool) (M:IM) (a:Value) (r:QaV) (s:OwnS (Kd.int .u8) M a a0 r) (b:(List Int)) (h:QjJ a0 a1=some b):
 Tri prog 47 #[a,(Bv a1)] M [r] (QtS a0 a1 a b):=by
 unfold QjJ at h
 refine Te func47 Z Z ?_
 intro F t m
 refine Sr (qa Zs (Nt (Cs (Sr (qM (Bv a1) (m 1) (Nt (Ch h Z (fun c h=> ?_) (fun c h=> ?_))))))))
 refine Sr (qM a (m 0) (We (buildSliceL (cl:=[(Yv 1)]) underlying22 iz5 Z (Pc (Yv 1) Z Z Pz) Z) Z ?_))
 rintro _ _ _ - ⟨rfl,d,rfl,rfl⟩
 have n:OwnS (Kd.int .u8) M (.slice (some ⟨d,0,none⟩) 1 1) [(1:Int)] [(d, .cells #[(Yv 1)] 5 (0,0))]:=OwnS.rows (css:=[[(Yv 1)]]) (Rows.cons Z Rows.nil) Z Z
 obtain ⟨e,h⟩:=Qa1 h
 refine WL.f1 (We (append (dd:=(Kd.int .u8)) (xs:=a0) (ys:=[(1:Int)]) underlying22 underlying22 in5 Z (appB (by decide) e) (by decide) Z Z s (n.src 1 Z)) Z ?_)
 rintro f _ _ - ⟨rfl,g,rfl,o⟩
 exact qa f (Nt (Cr (Tr (Qa (Dr (Rf h [g] Z (Rs Z Z) lr ⟨f,g,Z,Z,o⟩))))))
 refine Ck (Tc (Sr (qM a (m 0) (We (buildSliceL (cl:=[(Yv 0)]) underlying22 iz5 Z (Pc (Yv 0) Z Z Pz) Z) Z ?_))))
 rintro _ _ _ - ⟨rfl,i,rfl,rfl⟩
 have p:OwnS (Kd.int .u8) M (.slice (some ⟨i,0,none⟩) 1 1) [(0:Int)] [(i, .cells #[(Yv 0)] 5 (0,0))]:=OwnS.rows (css:=[[(Yv 0)]]) (Rows.cons Z Rows.nil) Z Z
 obtain ⟨j,h⟩:=Qa1 h
 refine WL.f1 (We (append (dd:=(Kd.int .u8)) (xs:=a0) (ys:=[(0:Int)]) underlying22 underlying22 in5 Z (appB (by decide) j) (by decide) Z Z s (p.src 1 Z)) Z ?_)
 rintro k _ _ - ⟨rfl,l,rfl,q⟩
 exact qa k (Nt (Cr (Qa (Dr (Rf h [l] Z (Rs Z Z) lr ⟨k,l,Z,Z,q⟩)))))
noncomputable def QhX (a1:(List Int)) (d:((List Int)×Int)):Option (((List Int)×Int)⊕(List Int)):=
 match d with
 |(b,a)=>
 (if(decide (a<(a1.length:Int)))=true then(grd (0≤a∧a<a1.length) ((QcL b (rd a1 a)).bind fun c=>(some (inl (c,i64.wrap (a+(1:Int)))))))else(some (inr b)))
noncomputable def QiL (a0:(List Int)) (a1:(List Int)):Option (List Int):=
 ((QcL a0 (a1.length:Int)).bind fun a=>((((iter (QhX a1) (a,(0:Int))).bind (fun(b:(List Int))=>(some b))):Option (List Int)).bind fun c=>(some c)))
def Qu1 (a0:(List Int)) (a1:(List Int)) (f g:Value):(List Int)→Value→IM→HL→Prop:=
 fun(c:(List Int)) (v:Value) (d:IM) (e:HL)=>∃ a b,a=v∧e=[b]∧OwnS (Kd.int .u8) d a c b
theorem QkQ (a0:(List Int)) (a1:(List Int)) (M:IM) (U A:Value) (c0:QaV) (h0:OwnS (Kd.int .u8) M U a0 c0) (t:RS (Kd.int .i64) M A a1) (C:(List Int)) (h:QiL a0 a1=some C):
 Tri prog 48 #[U,A] M [c0] (Qu1 a0 a1 U A C):=by
 unfold QiL at h
 refine Te func48 Z Z ?_
 intro F ρ V
 refine Sr (qa Zs (Ns (qM U (V 0) (qM A (V 1) (qu (Iv (a1.length:Int)) (lenS underlying51 Z t.len) ?_)))))
 obtain ⟨W,D,h⟩:=bnd h
 refine We (Cb co45 (Qa4 a0 (a1.length:Int) _ _ _ h0 W D) (QaS Z Z)) Z ?_
 rintro _ E _ m ⟨_,⟨q,G,rfl,rfl,I⟩,rfl⟩
 refine WL.a1 (qa q (Nt ?_))
 obtain ⟨u,J,h⟩:=bnd h
 refine Jf (fun(u:(List Int)) B K X=>∃ c d,E.le K∧d::F=X∧B 0=c∧OwnS (Kd.int .u8) K c u d) u ?_ ?_
 have h:=J
 refine Sr (qM A (V 1) ?_)
 have t:=t.mono m
 refine qu (Iv (a1.length:Int)) (lenS underlying51 Z t.len) (qm (Iv 0) (Nt (Bk ?_)))
 obtain ⟨a5,L,N⟩:=bnd h
 clear h
 refine WC.loop L (fun(p_:((List Int)×Int)) B K X=>match p_ with |(o,b)=>∃ e j,E.le K∧j::F=X∧B 0=e∧B 11=A∧B 12=(Iv (a1.length:Int))∧B 13=(Iv b)∧OwnS (Kd.int .u8) K e o j) ?_ ?_
 exact⟨q,G,lr,Z,Z,Z,Z,Z,I⟩
 rintro ⟨o,b⟩ a7 a8 a9 b0 h ⟨e,j,i,rfl,k,f,g,a,r⟩
 unfold QhX at h
 refine Sr (qu (Bv (decide (b<(a1.length:Int)))) (lss a g) (Nt (Cs (Ch h Z (fun O h=> ?_) (fun O h=> ?_)))))
 refine Ck (Tc (Cs (Bk (Sr ?_))))
 obtain ⟨l,h⟩:=Qa1 h
 have t:=t.mono i
 obtain ⟨Y,a3,v,w,hhas38⟩:=t.at l.1 l.2 (by decide)
 obtain rfl:=w
 refine qu (.pointer (some Y)) (indexAddr (n:=a1.length) underlying51 sz3 f a l.1 l.2 v) (qu (Iv (rd a1 b)) (loadM pl3 Z (IM.has0 hhas38)) (qa (Iv (rd a1 b)) (Nt (Cg (qM e k (qm (Iv (rd a1 b)) ?_))))))
 obtain ⟨P,Q,h⟩:=bnd h
 refine We (Cb co45 (Qa4 o (rd a1 b) _ _ _ r P Q) (QaS Z Z)) Z ?_
 rintro _ b1 _ x ⟨_,⟨s,R,rfl,rfl,S⟩,rfl⟩
 exact WL.a1 (qa s (Wz (Bn (Tc (Cg (qu (Iv (i64.wrap (b+1))) (add a Z) (qm (Iv (i64.wrap (b+1))) (Wz (WQ.again (P,i64.wrap (b+1)) (oi h).symm ⟨s,R,(i.trans x),Z,Z,f,g,Z,S⟩)))))))))
 refine WC.exit (WQ.thenE (WQ.leaveE o (oi h).symm (fun y=> ?_)))
 subst y
 have h:=N
 refine WQ.blockH ?_
 obtain rfl:=oi h
 exact Tj ⟨e,j,i,Z,k,r⟩
 rintro b2 b3 b4 ⟨c,d,z,rfl,p,T⟩
 exact Sr (qM c p (qa c (Nt (Cr (Rf h [d] Z (Rs Z Z) (m.trans z) ⟨c,d,Z,Z,T⟩)))))
noncomputable def Qi0 (a0:QaA) (j:((List Int)×Int)):Option (((List Int)×Int)⊕(List Int)):=
 match j with
 |(b,a)=>
 (if(decide (a<(a0.Brokers.length:Int)))=true then(grd (0≤a∧a<a0.Brokers.length) ((((QcL b ((rd a0.Brokers a).Id)).bind fun e=>((QcL e ((rd a0.Brokers a).Epoch)).bind fun f=>((QhH f (bytesOf ((rd a0.Brokers a).Rack))).bind fun g=>(some g)))):Option (List Int)).bind fun i=>((QjJ i ((rd a0.Brokers a).Fenced)).bind fun c=>((QjJ c ((rd a0.Brokers a).Leaving)).bind fun d=>(some (inl (d,i64.wrap (a+(1:Int)))))))))else(some (inr b)))
noncomputable def Qi1 (a0:QaA) (b:Int) (k:((List Int)×Int)):Option (((List Int)×Int)⊕(List Int)):=
 match k with
 |(c,a)=>
 (if(decide (a<(((rd a0.Topics b).Parts).length:Int)))=true then(grd (0≤a∧a<((rd a0.Topics b).Parts).length) ((QiL c ((rd ((rd a0.Topics b).Parts) a).Ids)).bind fun d=>((QiL d ((rd ((rd a0.Topics b).Parts) a).Isr)).bind fun e=>((QcL e ((rd ((rd a0.Topics b).Parts) a).Leader)).bind fun f=>((QcL f ((rd ((rd a0.Topics b).Parts) a).Epoch)).bind fun g=>((QiL g ((rd ((rd a0.Topics b).Parts) a).Add)).bind fun i=>((QiL i ((rd ((rd a0.Topics b).Parts) a).Drop)).bind fun j=>(some (inl (j,i64.wrap (a+(1:Int))))))))))))else(some (inr c)))
noncomputable def Qi2 (a0:QaA) (j:((List Int)×Int)):Option (((List Int)×Int)⊕(List Int)):=
 match j with
 |(b,a)=>
 (if(decide (a<(a0.Topics.length:Int)))=true then(((grd (0≤a∧a<a0.Topics.length) ((((QcL b ((rd a0.Topics a).Id)).bind fun c=>((QhH c (bytesOf ((rd a0.Topics a).Name))).bind fun d=>((QcL d (((rd a0.Topics a).Parts).length:Int)).bind fun e=>(some e)))):Option (List Int)).bind fun f=>((iter (Qi1 a0 a) (f,(0:Int))).bind (fun(g:(List Int))=>(some g))))):Option (List Int)).bind fun i=>(some (inl (i,i64.wrap (a+(1:Int))))))else(some (inr b)))
noncomputable def Qi3 (a0:QaA) (g:((List Int)×Int)):Option (((List Int)×Int)⊕(List Int)):=
 match g with
 |(b,a)=>
 (if(decide (a<(a0.Configs.length:Int)))=true then(((grd (0≤a∧a<a0.Configs.length) ((QcL b ((rd a0.Configs a).Topic)).bind fun c=>((QhH c (bytesOf ((rd a0.Configs a).Key))).bind fun d=>((QhH d (bytesOf ((rd a0.Configs a).Value))).bind fun e=>(some e))))):Option (List Int)).bind fun f=>(some (inl (f,i64.wrap (a+(1:Int))))))else(some (inr b)))
noncomputable def Qi4 (a0:QaA) (f:((List Int)×Int)):Option (((List Int)×Int)⊕(List Int)):=
 match f with
 |(b,a)=>
 (if(decide (a<(a0.Done.length:Int)))=true then(grd (0≤a∧a<a0.Done.length) ((QcL b ((rd a0.Done a).Client)).bind fun c=>((QcL c ((rd a0.Done a).Serial)).bind fun d=>((QcL d ((rd a0.Done a).Code)).bind fun e=>(some (inl (e,i64.wrap (a+(1:Int)))))))))else(some (inr b)))
noncomputable def QjK (a0:QaA):Option ((List Int)×GErr):=
 ((QeF a0).bind fun a=>(if(!a.isNil)=true then(some ([],a))else((QcL [] a0.Last).bind fun l=>((QcL l (a0.Brokers.length:Int)).bind fun m=>((((iter (Qi0 a0) (m,(0:Int))).bind (fun(n:(List Int))=>(some n))):Option (List Int)).bind fun o=>((QcL o (a0.Topics.length:Int)).bind fun b=>((((iter (Qi2 a0) (b,(0:Int))).bind (fun(c:(List Int))=>(some c))):Option (List Int)).bind fun d=>((QcL d (a0.Configs.length:Int)).bind fun e=>((((iter (Qi3 a0) (e,(0:Int))).bind (fun(f:(List Int))=>(some f))):Option (List Int)).bind fun g=>((QcL g (a0.Done.length:Int)).bind fun i=>((((iter (Qi4 a0) (i,(0:Int))).bind (fun(j:(List Int))=>(some j))):Option (List Int)).bind fun k=>(some (k,GErr.nil)))))))))))))
def Qu2 (a0:QaA) (c d e f:Value):((List Int)×GErr)→Value→IM→HL→Prop:=
 fun(g:((List Int)×GErr)) (v:Value) (i:IM) (j:HL)=>match g with |(k,l)=>∃ a b,(.tuple #[a,(GV l)])=v∧j=[b]∧OwnS (Kd.int .u8) i a k b
theorem Qq1 (a0:QaA) (M:IM) (k g l m:Value) (w:RS QaG M k a0.Brokers) (I:RS QaI M g a0.Topics) (J:RS QaH M l a0.Configs) (K:RS QaL M m a0.Done) (T0:((List Int)×GErr)) (h:QjK a0=some T0):
 Tri prog 9 #[(a29_ a0 k g l m)] M [] (Qu2 a0 k g l m T0):=by
 unfold QjK at h
 refine Te func9 Z Z ?_
 intro F ρ dc
 refine Sr (We (box (cs:=(l29 a0 k g l m).toArray) (congrArg Value.cells (asE (a29_ a0 k g l m) (dc 0)))) Z ?_)
 rintro _ _ _ - ⟨rfl,p,rfl,rfl⟩
 refine qa Zs (qa (GV GErr.nil) (Nt (Cs (Sr (qu (a29_ a0 k g l m) (La (cs:=(l29 a0 k g l m)) 0 ag29 sz29 Z Z Z) ?_)))))
 obtain ⟨n1,T1,h⟩:=bnd h
 refine We (Ca co14 (QiZ a0 _ _ _ _ _ w I J K n1 T1) (Qb2 Z)) Z ?_
 rintro _ dd _ g7 ⟨_,⟨rfl,rfl⟩,rfl⟩
 refine WL.a0 (qa (GV n1) (Ns (qm (GV n1) (qu (Bv (!n1.isNil)) (errNotNil underlying31 Z) (Nt (Ch h Z (fun T2 h=> ?_) (fun T2 h=> ?_)))))))
 exact Sr (qm (GV n1) (qa Zs (qa (GV n1) (Nt (Cr (Tr (WQ.e0 (Qa (Dr (Rf h [[]] Z (Qg1 Z Z Z) g7 ⟨Zs,[],Z,Z,(OwnS.nil _ _)⟩))))))))))
 refine Ck (Tc (Cs (WC.draw [0,1,3,0,8,24,63,127] (.pure 0 (.pure 1 (.pure 3 (.pure 4 (.pure 5 (.alt 2 (.alt 6 (.pure 7 .done) .none) .none)))))) Qc3 (by kernel_rfl) (qt (pt p 4) Z (Fa QmS Z Z) (qt (Iv a0.Last) Z (Lb 0 pl3 Z Z Z) (qt (pt p 0) Z (Fa QeU Z Z) (qt k Z (Lb 0 pl24 Z Z Z) ?_)))))))
 have w:=w.mono g7
 refine qt (Iv (a0.Brokers.length:Int)) Z (lenS underlying24 Z w.len) ?_
 obtain ⟨T3,T4,h⟩:=bnd h
 refine WT.e0 (Ta Z (Cb co45 (Qa4 [] a0.Last _ _ _ (OwnS.nil _ _) T3 T4) (QaS Z Z)) Z ?_ ?_)
 rintro _ de _ n8 ⟨_,⟨bw,bx,rfl,rfl,T5⟩,rfl⟩
 have w:=w.mono n8
 refine⟨(Ss Z (lenS underlying24 Z w.len) Z (Ss Z (Lb 1 pl24 Z Z Z) Z (Ss Z (Fa QeU Z Z) Z (Sl Z)))), ?_⟩
 refine WT.a1 ?_
 obtain ⟨ah,T6,h⟩:=bnd h
 refine Ta Z (Cb co45 (Qa4 T3 (a0.Brokers.length:Int) _ _ _ T5 ah T6) (QaS Z Z)) Z ?_ ?_
 rintro _ T7 _ n9 ⟨_,⟨y6,T8,rfl,rfl,T9⟩,rfl⟩
 have ai:=(g7.trans n8).trans n9
 refine⟨(Sl Z), ?_⟩
 refine WT.a1 (qt y6 Z (Ag Z) (Ti (Tc ?_)))
 obtain ⟨u2,U0,h⟩:=bnd h
 refine Jf (fun(u2:(List Int)) o D H'=>∃ j6 o0,T7.le D∧[(p, .cells (l29 a0 k g l m).toArray 29 (0,0))]::o0::F=H'∧o 1=(pt p 0)∧o 5=j6∧OwnS (Kd.int .u8) D j6 u2 o0) u2 ?_ ?_
 have h:=U0
 refine Sr (qu (pt p 0) (Fa QeU Z Z) (qu k (Lb 1 pl24 Z Z Z) ?_))
 have w:=w.mono n9
 refine qu (Iv (a0.Brokers.length:Int)) (lenS underlying24 Z w.len) (qm (Iv 0) (Nt (Bk (WC.f1 ?_))))
 obtain ⟨df,U1,U2⟩:=bnd h
 clear h
 refine WC.loop U1 (fun(p_:((List Int)×Int)) o D H'=>match p_ with |(o1,t)=>∃ g0 j7,T7.le D∧[(p, .cells (l29 a0 k g l m).toArray 29 (0,0))]::j7::F=H'∧o 1=(pt p 0)∧o 5=g0∧o 29=k∧o 30=(Iv (a0.Brokers.length:Int))∧o 31=(Iv t)∧OwnS (Kd.int .u8) D g0 o1 j7) ?_ ?_
 exact⟨y6,T8,lr,Z,Z,Z,Z,Z,Z,T9⟩
 rintro ⟨o1,t⟩ dg dh aj di h ⟨g0,j7,g8,rfl,a7,O,P,Q,E,o2⟩
 unfold Qi0 at h
 refine Sr (qu (Bv (decide (t<(a0.Brokers.length:Int)))) (lss E Q) (Nt (Cs (Ch h Z (fun U3 h=> ?_) (fun U3 h=> ?_)))))
 refine Ck (Tc (Cs (Bk (Sr ?_))))
 obtain ⟨j8,h⟩:=Qa1 h
 have w:=w.mono g8
 obtain ⟨ak,bz,C9,D0,hhas52⟩:=w.at j8.1 j8.2 (by decide)
 obtain rfl:=QbB D0
 refine qu (.pointer (some ak)) (indexAddr (n:=a0.Brokers.length) underlying24 sz66 P E j8.1 j8.2 C9) (qu (a66_ (rd a0.Brokers t)) (loadMA (cs:=(l66 (rd a0.Brokers t))) ag66 sz66 Z hhas52) (We (Al ze66 Z) Z ?_))
 rintro _ _ _ - ⟨rfl,g9,rfl,rfl⟩
 refine We (Sg (v:=(a66_ (rd a0.Brokers t))) (vl:=(l66 (rd a0.Brokers t))) (arr':=(l66 (rd a0.Brokers t))) Z sz66 Z Z (onb Z) Z Z Z) Z ?_
 rintro _ _ _ - ⟨rfl,rfl⟩
 refine Nt ?_
 obtain ⟨u4,U4,h⟩:=bnd h
 refine Jf (fun(u4:(List Int)) o D H'=>∃ j9 o3,aj.le D∧[(g9, .cells (l66 (rd a0.Brokers t)).toArray 66 (0,0))]::[(p, .cells (l29 a0 k g l m).toArray 29 (0,0))]::o3::F=H'∧o 1=(pt p 0)∧o 5=j9∧o 7=(pt g9 0)∧o 29=k∧o 30=(Iv (a0.Brokers.length:Int))∧o 31=(Iv t)∧OwnS (Kd.int .u8) D j9 u4 o3) u4 ?_ ?_
 have h:=U4
 refine WC.draw [0,0,2,7,0,16,63,0,128,384,1023,2047] (.pure 0 (.pure 1 (.pure 2 (.pure 4 (.pure 5 (.pure 7 (.pure 8 (.alt 3 (.alt 6 (.alt 9 (.alt 10 (.alt 11 .done .none) .none) .none) (.alt 9 (.alt 6 (.alt 10 (.alt 11 .done .none) .none) .none) .none)) (.alt 9 (.alt 3 (.alt 6 (.alt 10 (.alt 11 .done .none) .none) .none) .none) .none))))))))) Qc3 (by kernel_rfl) (qt g0 Z (Mv O) (qt (pt g9 0) Z (Fa QhO Z Z) (qt (Iv ((rd a0.Brokers t).Id)) Z (Lb 0 pl3 Z Z Z) (qt (pt g9 1) Z (Fa QmU Z Z) (qt (Iv ((rd a0.Brokers t).Epoch)) Z (Lb 0 pl3 Z Z Z) (qt (pt g9 2) Z (Fa QrE Z Z) (qt (Sv ((rd a0.Brokers t).Rack)) Z (Lb 0 pl9 Z Z Z) ?_)))))))
 have U5:=h
 obtain ⟨D1,U6,h⟩:=bnd h
 refine WT.f2 (Ta Z (Cb co45 (Qa4 o1 ((rd a0.Brokers t).Id) _ _ _ o2 D1 U6) (QaS Z Z)) Z ?_ ?_)
 rintro _ dj _ o4 ⟨_,⟨bA,bB,rfl,rfl,y7⟩,rfl⟩
 refine⟨(Ss Z (Lb 1 pl9 Z Z Z) Z (Ss Z (Fa QrE Z Z) Z (Ss Z (Lb 1 pl3 Z Z Z) Z (Ss Z (Fa QmU Z Z) Z (Sl Z))))), ?_⟩
 refine WT.a1 ?_
 have U7:=h
 obtain ⟨U8,U9,h⟩:=bnd h
 refine Ta Z (Cb co45 (Qa4 D1 ((rd a0.Brokers t).Epoch) _ _ _ y7 U8 U9) (QaS Z Z)) Z ?_ ?_
 rintro _ dk _ D2 ⟨_,⟨bC,bD,rfl,rfl,V0⟩,rfl⟩
 refine⟨(Ss Z (Lb 1 pl9 Z Z Z) Z (Ss Z (Fa QrE Z Z) Z (Sl Z))), ?_⟩
 refine WT.a1 (Ta Z (s2b underlying9 underlying22 underlying5 Z) Z ?_ ?_)
 rintro dl _ _ - ⟨rfl,al,rfl,V1⟩
 refine⟨(Sk 2 Z (Ss Z (Lb 2 pl3 Z Z Z) Z (Ss Z (Fa QmU Z Z) Z (Ss Z (Lb 2 pl3 Z Z Z) Z (Ss Z (Fa QhO Z Z) Z (Ss Z (Mv O) Z trivial)))))), ?_⟩
 obtain ⟨V2,V3,h⟩:=bnd h
 refine WT.f1 (WT.f1 (Ta Z (EO.call2 co46 (Tri.lend V1.excl fun x y c=>(QbF U8 (bytesOf ((rd a0.Brokers t).Rack)) _ _ _ _ (V0.mono (IM.le_add _ _)) (V1.rs c) V2 V3)) (QaS Z Z)) Z ?_ ?_))
 rintro _ _ _ D3 ⟨_,⟨V4,bE,am,rfl,rfl,⟨y8,y9,rfl,rfl,o5⟩⟩,rfl⟩
 have o5:OwnS (Kd.int .u8) (V4.minus al) y8 V2 y9:=o5.any (Kd.int_flat _)
 refine⟨(Sl Z), ?_⟩
 refine WT.a2 (Ta Z ((Ag Z).eo) Z ?_ ?_)
 rintro _ _ _ - ⟨rfl,rfl,rfl⟩
 refine⟨(Sl Z), ?_⟩
 refine Ti (Dr (Qb (Qb ?_)))
 obtain rfl:=oi h
 exact Tj ⟨y8,y9,((o4.trans D2).trans D3),Z,a7,Z,Z,P,Q,E,o5⟩
 exact Tz
 exact Tz
 exact Tz
 have h:=U7
 refine Ta Z (s2b underlying9 underlying22 underlying5 Z) Z ?_ ?_
 rintro dm _ _ - ⟨rfl,an,rfl,u5⟩
 refine⟨(Sk 2 Z (Ss Z (Lb 2 pl3 Z Z Z) Z (Ss Z (Fa QmU Z Z) Z (Ss Z (Lb 2 pl3 Z Z Z) Z (Ss Z (Fa QhO Z Z) Z (Ss Z (Mv O) Z trivial)))))), ?_⟩
 obtain ⟨V5,V6,h⟩:=bnd h
 refine WT.f1 (Ta Z (Cb co45 (Qa4 D1 ((rd a0.Brokers t).Epoch) _ _ _ y7 V5 V6) (QaS Z Z)) Z ?_ ?_)
 rintro _ dn _ o6 ⟨_,⟨bF,bG,rfl,rfl,V7⟩,rfl⟩
 refine⟨(Ss Z (Lb 2 pl9 Z Z Z) Z (Ss Z (Fa QrE Z Z) Z (Sl Z))), ?_⟩
 refine WT.a1 ?_
 obtain ⟨V8,V9,h⟩:=bnd h
 refine WT.f1 ?_
 have u5:=u5.mono o6
 refine Ta Z (EO.call2 co46 (Tri.lend u5.excl fun x y c=>(QbF V5 (bytesOf ((rd a0.Brokers t).Rack)) _ _ _ _ (V7.mono (IM.le_add _ _)) (u5.rs c) V8 V9)) (QaS Z Z)) Z ?_ ?_
 rintro _ _ _ D4 ⟨_,⟨W0,bH,ao,rfl,rfl,⟨z0,z1,rfl,rfl,o7⟩⟩,rfl⟩
 have o7:OwnS (Kd.int .u8) (W0.minus an) z0 V8 z1:=o7.any (Kd.int_flat _)
 refine⟨(Sl Z), ?_⟩
 refine WT.a2 (Ta Z ((Ag Z).eo) Z ?_ ?_)
 rintro _ _ _ - ⟨rfl,rfl,rfl⟩
 refine⟨(Sl Z), ?_⟩
 refine Ti (Dr (Qb (Qb ?_)))
 obtain rfl:=oi h
 exact Tj ⟨z0,z1,((o4.trans o6).trans D4),Z,a7,Z,Z,P,Q,E,o7⟩
 exact Tz
 exact Tz
 exact Tz
 exact Tz
 have h:=U5
 refine Ta Z (s2b underlying9 underlying22 underlying5 Z) Z ?_ ?_
 rintro dp _ _ - ⟨rfl,ap,rfl,u6⟩
 refine⟨(Sk 2 Z (Ss Z (Lb 2 pl3 Z Z Z) Z (Ss Z (Fa QmU Z Z) Z (Ss Z (Lb 2 pl3 Z Z Z) Z (Ss Z (Fa QhO Z Z) Z (Ss Z (Mv O) Z trivial)))))), ?_⟩
 obtain ⟨W1,D5,h⟩:=bnd h
 refine WT.f1 (Ta Z (Cb co45 (Qa4 o1 ((rd a0.Brokers t).Id) _ _ _ o2 W1 D5) (QaS Z Z)) Z ?_ ?_)
 rintro _ bI _ k0 ⟨_,⟨aq,ar,rfl,rfl,D6⟩,rfl⟩
 refine⟨(Ss Z (Lb 2 pl9 Z Z Z) Z (Ss Z (Fa QrE Z Z) Z (Ss Z (Lb 2 pl3 Z Z Z) Z (Ss Z (Fa QmU Z Z) Z (Sl Z))))), ?_⟩
 refine WT.a1 ?_
 obtain ⟨z2,D7,h⟩:=bnd h
 refine Ta Z (Cb co45 (Qa4 W1 ((rd a0.Brokers t).Epoch) _ _ _ D6 z2 D7) (QaS Z Z)) Z ?_ ?_
 rintro _ bJ _ k1 ⟨_,⟨au,av,rfl,rfl,D8⟩,rfl⟩
 refine⟨(Ss Z (Lb 2 pl9 Z Z Z) Z (Ss Z (Fa QrE Z Z) Z (Sl Z))), ?_⟩
 refine WT.a1 ?_
 obtain ⟨z3,D9,h⟩:=bnd h
 refine WT.f1 ?_
 have u6:=u6.mono (k0.trans k1)
 refine Ta Z (EO.call2 co46 (Tri.lend u6.excl fun x y c=>(QbF z2 (bytesOf ((rd a0.Brokers t).Rack)) _ _ _ _ (D8.mono (IM.le_add _ _)) (u6.rs c) z3 D9)) (QaS Z Z)) Z ?_ ?_
 rintro _ _ _ u7 ⟨_,⟨E0,aw,Y8,rfl,rfl,⟨o8,o9,rfl,rfl,h0⟩⟩,rfl⟩
 have h0:OwnS (Kd.int .u8) (E0.minus ap) o8 z3 o9:=h0.any (Kd.int_flat _)
 refine⟨(Sl Z), ?_⟩
 refine WT.a2 (Ta Z ((Ag Z).eo) Z ?_ ?_)
 rintro _ _ _ - ⟨rfl,rfl,rfl⟩
 refine⟨(Sl Z), ?_⟩
 refine Ti (Dr (Qb (Qb ?_)))
 obtain rfl:=oi h
 exact Tj ⟨o8,o9,((k0.trans k1).trans u7),Z,a7,Z,Z,P,Q,E,h0⟩
 exact Tz
 exact Tz
 exact Tz
 exact Tz
 exact Tz
 rintro dq dr ds ⟨j9,o3,E1,rfl,u9,v0,c5,p0,p1,p2,W2⟩
 refine WC.draw [0,0,2,7,0,16,63,127] (.pure 0 (.pure 1 (.pure 2 (.pure 4 (.pure 5 (.alt 3 (.alt 6 (.alt 7 .done .none) .none) .none)))))) Qc3 (by kernel_rfl) (qt j9 Z (Mv v0) (qt (pt g9 3) Z (Fa Qn8 c5 Z) (qt (Bv ((rd a0.Brokers t).Fenced)) Z (Lb 0 pl4 Z Z Z) (qt (pt g9 4) Z (Fa Qs1 c5 Z) (qt (Bv ((rd a0.Brokers t).Leaving)) Z (Lb 0 pl4 Z Z Z) ?_)))))
 obtain ⟨z4,E2,h⟩:=bnd h
 refine WT.f2 (Ta Z (Cb co47 (Qo9 u4 ((rd a0.Brokers t).Fenced) _ _ _ W2 z4 E2) (QaS Z Z)) Z ?_ ?_)
 rintro _ bK _ v1 ⟨_,⟨ax,ay,rfl,rfl,E3⟩,rfl⟩
 refine⟨(Ss Z (Lb 1 pl4 Z Z Z) Z (Ss Z (Fa Qs1 c5 Z) Z (Sl Z))), ?_⟩
 refine WT.a1 ?_
 obtain ⟨z5,E4,h⟩:=bnd h
 refine Ta Z (Cb co47 (Qo9 z4 ((rd a0.Brokers t).Leaving) _ _ _ E3 z5 E4) (QaS Z Z)) Z ?_ ?_
 rintro _ bL _ v2 ⟨_,⟨E5,E6,rfl,rfl,E7⟩,rfl⟩
 refine⟨(Sl Z), ?_⟩
 refine WT.a1 (Ta Z ((Ag Z).eo) Z ?_ ?_)
 rintro _ _ _ - ⟨rfl,rfl,rfl⟩
 refine⟨(Sl Z), ?_⟩
 exact Ti (Bn (Tc (Cg (qu (Iv (i64.wrap (t+1))) (add p2 Z) (qm (Iv (i64.wrap (t+1))) (Wz (Qa (Dr (Qa (WQ.again (z5,i64.wrap (t+1)) (oi h).symm ⟨E5,E6,(((g8.trans E1).trans v1).trans v2),Z,u9,Z,p0,p1,Z,E7⟩))))))))))
 exact Tz
 exact Tz
 exact Tz
 refine WC.exit (WQ.thenE (WQ.leaveE o1 (oi h).symm (fun E8=> ?_)))
 subst E8
 have h:=U2
 refine WQ.blockH ?_
 obtain rfl:=oi h
 exact Tj ⟨g0,j7,g8,Z,a7,O,o2⟩
 rintro dt du dv ⟨j6,o0,E9,rfl,c6,v3,W3⟩
 have W4:=ai.trans E9
 refine Sr (qM j6 v3 (qu (pt p 1) (Fa QcB c6 Z) (qu g (Lb 0 pl25 Z Z Z) ?_)))
 have I:=I.mono W4
 refine qu (Iv (a0.Topics.length:Int)) (lenS underlying25 Z I.len) ?_
 obtain ⟨W5,F0,h⟩:=bnd h
 refine WL.f1 (We (Cb co45 (Qa4 u2 (a0.Topics.length:Int) _ _ _ W3 W5 F0) (QaS Z Z)) Z ?_)
 rintro _ z6 _ k2 ⟨_,⟨p3,F1,rfl,rfl,F2⟩,rfl⟩
 have W6:=W4.trans k2
 refine WL.a1 (qa p3 (Nt ?_))
 obtain ⟨k3,F3,h⟩:=bnd h
 refine Jf (fun(k3:(List Int)) o D H'=>∃ c7 h1,z6.le D∧[(p, .cells (l29 a0 k g l m).toArray 29 (0,0))]::h1::F=H'∧o 1=(pt p 0)∧o 5=c7∧OwnS (Kd.int .u8) D c7 k3 h1) k3 ?_ ?_
 have h:=F3
 refine Sr (qu (pt p 1) (Fa QcB c6 Z) (qu g (Lb 1 pl25 Z Z Z) ?_))
 have I:=I.mono k2
 refine qu (Iv (a0.Topics.length:Int)) (lenS underlying25 Z I.len) (qm (Iv 0) (Nt (Bk (WC.f1 ?_))))
 obtain ⟨bM,F4,F5⟩:=bnd h
 clear h
 refine WC.loop F4 (fun(p_:((List Int)×Int)) o D H'=>match p_ with |(g1,b)=>∃ a9 c8,z6.le D∧[(p, .cells (l29 a0 k g l m).toArray 29 (0,0))]::c8::F=H'∧o 1=(pt p 0)∧o 5=a9∧o 60=g∧o 61=(Iv (a0.Topics.length:Int))∧o 62=(Iv b)∧OwnS (Kd.int .u8) D a9 g1 c8) ?_ ?_
 exact⟨p3,F1,lr,Z,c6,Z,Z,Z,Z,F2⟩
 rintro ⟨g1,b⟩ bN bO z7 bP h ⟨a9,c8,c9,rfl,b0,R,V,W,G,h2⟩
 unfold Qi2 at h
 refine Sr (qu (Bv (decide (b<(a0.Topics.length:Int)))) (lss G W) (Nt (Cs (Ch h Z (fun F6 h=> ?_) (fun F6 h=> ?_)))))
 refine Ck (Tc ?_)
 obtain ⟨k4,F7,h⟩:=bnd h
 refine Jf (fun(k4:(List Int)) o D H'=>∃ d0 d1,z7.le D∧[(p, .cells (l29 a0 k g l m).toArray 29 (0,0))]::d1::F=H'∧o 1=(pt p 0)∧o 5=d0∧o 60=g∧o 61=(Iv (a0.Topics.length:Int))∧o 62=(Iv b)∧OwnS (Kd.int .u8) D d0 k4 d1) k4 ?_ ?_
 have h:=F7
 refine Bk (Sr ?_)
 obtain ⟨d2,h⟩:=Qa1 h
 have I:=I.mono c9
 obtain ⟨W7,az,v4,v5,hhas146⟩:=I.at d2.1 d2.2 (by decide)
 obtain ⟨q,rfl,a⟩:=QaW v5
 refine qu (.pointer (some W7)) (indexAddr (n:=a0.Topics.length) underlying25 sz50 V G d2.1 d2.2 v4) (qu (a50_ (rd a0.Topics b) q) (loadMA (cs:=(l50 (rd a0.Topics b) q)) ag50 sz50 Z hhas146) (We (Al ze50 Z) Z ?_))
 rintro _ _ _ - ⟨rfl,b1,rfl,rfl⟩
 refine We (Sg (v:=(a50_ (rd a0.Topics b) q)) (vl:=(l50 (rd a0.Topics b) q)) (arr':=(l50 (rd a0.Topics b) q)) Z sz50 Z Z (QaX (Oc Z (Oc Z (Oc (RS.one a) Oz)))) Z Z Z) Z ?_
 rintro _ _ _ - ⟨rfl,rfl⟩
 refine Nt ?_
 obtain ⟨p4,F8,h⟩:=bnd h
 refine Jf (fun(p4:(List Int)) o D H'=>∃ d3 d4,z7.le D∧[(b1, .cells (l50 (rd a0.Topics b) q).toArray 50 (0,0))]::[(p, .cells (l29 a0 k g l m).toArray 29 (0,0))]::d4::F=H'∧o 1=(pt p 0)∧o 5=d3∧o 9=(pt b1 0)∧o 60=g∧o 61=(Iv (a0.Topics.length:Int))∧o 62=(Iv b)∧OwnS (Kd.int .u8) D d3 p4 d4) p4 ?_ ?_
 have h:=F8
 refine WC.draw [0,0,2,7,0,16,48,127,0,256,768,2047,4095] (.pure 0 (.pure 1 (.pure 2 (.pure 4 (.pure 5 (.pure 8 (.pure 9 (.pure 10 (.alt 3 (.alt 6 (.alt 7 (.alt 11 (.alt 12 .done .none) .none) .none) .none) (.alt 6 (.alt 3 (.alt 7 (.alt 11 (.alt 12 .done .none) .none) .none) .none) .none)))))))))) Qc3 (by kernel_rfl) (qt a9 Z (Mv R) (qt (pt b1 0) Z (Fa QkJ Z Z) (qt (Iv ((rd a0.Topics b).Id)) Z (Lb 0 pl3 Z Z Z) (qt (pt b1 1) Z (Fa Ql3 Z Z) (qt (Sv ((rd a0.Topics b).Name)) Z (Lb 0 pl9 Z Z Z) (qt (pt b1 2) Z (Fa Qd0 Z Z) (qt q Z (Lb 0 pl48 Z Z Z) (qt (Iv (((rd a0.Topics b).Parts).length:Int)) Z (lenS underlying48 Z a.len) ?_))))))))
 have F9:=h
 obtain ⟨z8,G0,h⟩:=bnd h
 refine WT.f2 (Ta Z (Cb co45 (Qa4 g1 ((rd a0.Topics b).Id) _ _ _ h2 z8 G0) (QaS Z Z)) Z ?_ ?_)
 rintro _ bQ _ k5 ⟨_,⟨aA,aB,rfl,rfl,G1⟩,rfl⟩
 have a:=a.mono k5
 refine⟨(Ss Z (lenS underlying48 Z a.len) Z (Ss Z (Lb 1 pl48 Z Z Z) Z (Ss Z (Fa Qd0 Z Z) Z (Ss Z (Lb 1 pl9 Z Z Z) Z (Ss Z (Fa Ql3 Z Z) Z (Sl Z)))))), ?_⟩
 refine WT.a1 (Ta Z (s2b underlying9 underlying22 underlying5 Z) Z ?_ ?_)
 rintro bR _ _ - ⟨rfl,W8,rfl,z9⟩
 refine⟨(Ss Z (lenS underlying48 Z a.len) Z (Ss Z (Lb 2 pl48 Z Z Z) Z (Ss Z (Fa Qd0 Z Z) Z (Sk 2 Z (Ss Z (Lb 2 pl3 Z Z Z) Z (Ss Z (Fa QkJ Z Z) Z (Ss Z (Mv R) Z trivial))))))), ?_⟩
 obtain ⟨p5,G2,h⟩:=bnd h
 refine WT.f1 (WT.f1 (Ta Z (EO.call2 co46 (Tri.lend z9.excl fun x y c=>(QbF z8 (bytesOf ((rd a0.Topics b).Name)) _ _ _ _ (G1.mono (IM.le_add _ _)) (z9.rs c) p5 G2)) (QaS Z Z)) Z ?_ ?_))
 rintro _ _ _ k6 ⟨_,⟨G3,aC,Y9,rfl,rfl,⟨G4,G5,rfl,rfl,h3⟩⟩,rfl⟩
 have h3:OwnS (Kd.int .u8) (G3.minus W8) G4 p5 G5:=h3.any (Kd.int_flat _)
 have a:=a.mono k6
 refine⟨(Ss Z (lenS underlying48 Z a.len) Z (Ss Z (Lb 2 pl48 Z Z Z) Z (Ss Z (Fa Qd0 Z Z) Z (Sl Z)))), ?_⟩
 refine WT.a2 ?_
 obtain ⟨W9,G6,h⟩:=bnd h
 refine WT.f1 (Ta Z (Cb co45 (Qa4 p5 (((rd a0.Topics b).Parts).length:Int) _ _ _ h3 W9 G6) (QaS Z Z)) Z ?_ ?_)
 rintro _ bS _ v6 ⟨_,⟨G7,G8,rfl,rfl,G9⟩,rfl⟩
 refine⟨(Sl Z), ?_⟩
 refine WT.a1 (Ta Z ((Ag Z).eo) Z ?_ ?_)
 rintro _ _ _ - ⟨rfl,rfl,rfl⟩
 refine⟨(Sl Z), ?_⟩
 refine Ti (Qa (Dr (Qb (Qb ?_))))
 obtain rfl:=oi h
 exact Tj ⟨G7,G8,((k5.trans k6).trans v6),Z,b0,Z,Z,V,W,G,G9⟩
 exact Tz
 exact Tz
 exact Tz
 exact Tz
 have h:=F9
 refine Ta Z (s2b underlying9 underlying22 underlying5 Z) Z ?_ ?_
 rintro bT _ _ - ⟨rfl,X0,rfl,k7⟩
 refine⟨(Ss Z (lenS underlying48 Z a.len) Z (Ss Z (Lb 2 pl48 Z Z Z) Z (Ss Z (Fa Qd0 Z Z) Z (Sk 2 Z (Ss Z (Lb 2 pl3 Z Z Z) Z (Ss Z (Fa QkJ Z Z) Z (Ss Z (Mv R) Z trivial))))))), ?_⟩
 obtain ⟨A0,H0,h⟩:=bnd h
 refine WT.f1 (Ta Z (Cb co45 (Qa4 g1 ((rd a0.Topics b).Id) _ _ _ h2 A0 H0) (QaS Z Z)) Z ?_ ?_)
 rintro _ bU _ d5 ⟨_,⟨aD,aE,rfl,rfl,H1⟩,rfl⟩
 have a:=a.mono d5
 refine⟨(Ss Z (lenS underlying48 Z a.len) Z (Ss Z (Lb 2 pl48 Z Z Z) Z (Ss Z (Fa Qd0 Z Z) Z (Ss Z (Lb 2 pl9 Z Z Z) Z (Ss Z (Fa Ql3 Z Z) Z (Sl Z)))))), ?_⟩
 refine WT.a1 ?_
 obtain ⟨p6,H2,h⟩:=bnd h
 refine WT.f1 ?_
 have k7:=k7.mono d5
 refine Ta Z (EO.call2 co46 (Tri.lend k7.excl fun x y c=>(QbF A0 (bytesOf ((rd a0.Topics b).Name)) _ _ _ _ (H1.mono (IM.le_add _ _)) (k7.rs c) p6 H2)) (QaS Z Z)) Z ?_ ?_
 rintro _ _ _ k8 ⟨_,⟨H3,aF,Z0,rfl,rfl,⟨H4,H5,rfl,rfl,h4⟩⟩,rfl⟩
 have h4:OwnS (Kd.int .u8) (H3.minus X0) H4 p6 H5:=h4.any (Kd.int_flat _)
 have a:=a.mono k8
 refine⟨(Ss Z (lenS underlying48 Z a.len) Z (Ss Z (Lb 2 pl48 Z Z Z) Z (Ss Z (Fa Qd0 Z Z) Z (Sl Z)))), ?_⟩
 refine WT.a2 ?_
 obtain ⟨X1,H6,h⟩:=bnd h
 refine WT.f1 (Ta Z (Cb co45 (Qa4 p6 (((rd a0.Topics b).Parts).length:Int) _ _ _ h4 X1 H6) (QaS Z Z)) Z ?_ ?_)
 rintro _ bV _ v7 ⟨_,⟨H7,H8,rfl,rfl,H9⟩,rfl⟩
 refine⟨(Sl Z), ?_⟩
 refine WT.a1 (Ta Z ((Ag Z).eo) Z ?_ ?_)
 rintro _ _ _ - ⟨rfl,rfl,rfl⟩
 refine⟨(Sl Z), ?_⟩
 refine Ti (Qa (Dr (Qb (Qb ?_))))
 obtain rfl:=oi h
 exact Tj ⟨H7,H8,((d5.trans k8).trans v7),Z,b0,Z,Z,V,W,G,H9⟩
 exact Tz
 exact Tz
 exact Tz
 exact Tz
 exact Tz
 rintro bW X2 bX ⟨d3,d4,k9,rfl,p7,p8,p9,n2,n3,n4,I0⟩
 refine Sr (qu (pt b1 2) (Fa Qd0 p9 Z) (qu q (Lb 0 pl48 Z Z Z) ?_))
 have a:=a.mono k9
 refine qu (Iv (((rd a0.Topics b).Parts).length:Int)) (lenS underlying48 Z a.len) (qm (Iv 0) (Nt (Bk ?_)))
 obtain ⟨bY,I1,I2⟩:=bnd h
 clear h
 refine WC.loop I1 (fun(p_:((List Int)×Int)) o D H'=>match p_ with |(l0,r)=>∃ b2 d6,X2.le D∧[(b1, .cells (l50 (rd a0.Topics b) q).toArray 50 (0,0))]::[(p, .cells (l29 a0 k g l m).toArray 29 (0,0))]::d6::F=H'∧o 1=(pt p 0)∧o 5=b2∧o 60=g∧o 61=(Iv (a0.Topics.length:Int))∧o 62=(Iv b)∧o 79=q∧o 80=(Iv (((rd a0.Topics b).Parts).length:Int))∧o 81=(Iv r)∧OwnS (Kd.int .u8) D b2 l0 d6) ?_ ?_
 exact⟨d3,d4,lr,Z,p7,p8,n2,n3,n4,Z,Z,Z,I0⟩
 rintro ⟨l0,r⟩ bZ ca cb cc h ⟨b2,d6,d7,rfl,g2,g3,b9,c0,c1,c2,c3,X,q0⟩
 unfold Qi1 at h
 refine Sr (qu (Bv (decide (r<(((rd a0.Topics b).Parts).length:Int)))) (lss X c3) (Nt (Cs (Ch h Z (fun I3 h=> ?_) (fun I3 h=> ?_)))))
 refine Ck (Tc (Cs (Bk (Sr ?_))))
 obtain ⟨d8,h⟩:=Qa1 h
 have a:=a.mono d7
 obtain ⟨X3,aG,v8,v9,hhas204⟩:=a.at d8.1 d8.2 (by decide)
 obtain ⟨z,A,B,C,rfl,g4,S,T,U⟩:=QcY v9
 refine qu (.pointer (some X3)) (indexAddr (n:=((rd a0.Topics b).Parts).length) underlying48 sz53 c2 X d8.1 d8.2 v8) (qu (a53_ (rd ((rd a0.Topics b).Parts) r) z A B C) (loadMA (cs:=(l53 (rd ((rd a0.Topics b).Parts) r) z A B C)) ag53 sz53 Z hhas204) (We (Al ze53 Z) Z ?_))
 rintro _ _ _ - ⟨rfl,c4,rfl,rfl⟩
 refine We (Sg (v:=(a53_ (rd ((rd a0.Topics b).Parts) r) z A B C)) (vl:=(l53 (rd ((rd a0.Topics b).Parts) r) z A B C)) (arr':=(l53 (rd ((rd a0.Topics b).Parts) r) z A B C)) Z sz53 Z Z (QaX (Oc (RS.one g4) (Oc (RS.one S) (Oc Z (Oc Z (Oc (RS.one T) (Oc (RS.one U) Oz))))))) Z Z Z) Z ?_
 rintro _ _ _ - ⟨rfl,rfl⟩
 refine Nt (Cs (WC.draw [0,0,2,7,0,16,63,0,128,511,0,1024,4095,8191] (.pure 0 (.pure 1 (.pure 2 (.pure 4 (.pure 5 (.pure 7 (.pure 8 (.pure 10 (.pure 11 (.alt 3 (.alt 6 (.alt 9 (.alt 12 (.alt 13 .done .none) .none) .none) .none) .none)))))))))) Qc3 (by kernel_rfl) (qt b2 Z (Mv g3) (qt (pt c4 0) Z (Fa QiN Z Z) (qt z Z (Lb 0 pl51 Z Z Z) (qt (pt c4 1) Z (Fa QlA Z Z) (qt A Z (Lb 0 pl51 Z Z Z) (qt (pt c4 2) Z (Fa QkK Z Z) (qt (Iv ((rd ((rd a0.Topics b).Parts) r).Leader)) Z (Lb 0 pl3 Z Z Z) (qt (pt c4 3) Z (Fa Ql4 Z Z) (qt (Iv ((rd ((rd a0.Topics b).Parts) r).Epoch)) Z (Lb 0 pl3 Z Z Z) ?_)))))))))))
 obtain ⟨A1,I4,h⟩:=bnd h
 refine WT.f3 (Ta Z (Cb co48 (QkQ l0 ((rd ((rd a0.Topics b).Parts) r).Ids) _ _ _ _ q0 g4 A1 I4) (QaS Z Z)) Z ?_ ?_)
 rintro _ cd _ a8 ⟨_,⟨aH,aI,rfl,rfl,I5⟩,rfl⟩
 refine⟨(Ss Z (Lb 1 pl3 Z Z Z) Z (Ss Z (Fa Ql4 Z Z) Z (Ss Z (Lb 1 pl3 Z Z Z) Z (Ss Z (Fa QkK Z Z) Z (Ss Z (Lb 1 pl51 Z Z Z) Z (Ss Z (Fa QlA Z Z) Z (Sl Z))))))), ?_⟩
 refine WT.a1 ?_
 obtain ⟨A2,I6,h⟩:=bnd h
 have S:=S.mono a8
 refine Ta Z (Cb co48 (QkQ A1 ((rd ((rd a0.Topics b).Parts) r).Isr) _ _ _ _ I5 S A2 I6) (QaS Z Z)) Z ?_ ?_
 rintro _ ce _ d9 ⟨_,⟨aJ,aK,rfl,rfl,I7⟩,rfl⟩
 refine⟨(Ss Z (Lb 1 pl3 Z Z Z) Z (Ss Z (Fa Ql4 Z Z) Z (Ss Z (Lb 1 pl3 Z Z Z) Z (Ss Z (Fa QkK Z Z) Z (Sl Z))))), ?_⟩
 refine WT.a1 ?_
 obtain ⟨A3,I8,h⟩:=bnd h
 refine Ta Z (Cb co45 (Qa4 A2 ((rd ((rd a0.Topics b).Parts) r).Leader) _ _ _ I7 A3 I8) (QaS Z Z)) Z ?_ ?_
 rintro _ cf _ e1 ⟨_,⟨aL,aM,rfl,rfl,I9⟩,rfl⟩
 refine⟨(Ss Z (Lb 1 pl3 Z Z Z) Z (Ss Z (Fa Ql4 Z Z) Z (Sl Z))), ?_⟩
 refine WT.a1 ?_
 obtain ⟨A4,J0,h⟩:=bnd h
 refine Ta Z (Cb co45 (Qa4 A3 ((rd ((rd a0.Topics b).Parts) r).Epoch) _ _ _ I9 A4 J0) (QaS Z Z)) Z ?_ ?_
 rintro _ cg _ e2 ⟨_,⟨J1,aN,rfl,rfl,J2⟩,rfl⟩
 refine⟨(Sl Z), ?_⟩
 refine WT.a1 (Ta Z ((Ag Z).eo) Z ?_ ?_)
 rintro _ _ _ - ⟨rfl,rfl,rfl⟩
 refine⟨(Sl Z), ?_⟩
 refine Ti (Tc (WC.draw [0,0,2,7,0,16,63,127] (.pure 0 (.pure 1 (.pure 2 (.pure 4 (.pure 5 (.alt 3 (.alt 6 (.alt 7 .done .none) .none) .none)))))) Qc3 (by kernel_rfl) (qt J1 Z (Mv Z) (qt (pt c4 4) Z (Fa Qn7 Z Z) (qt B Z (Lb 1 pl51 Z Z Z) (qt (pt c4 5) Z (Fa QmT Z Z) (qt C Z (Lb 1 pl51 Z Z Z) ?_)))))))
 obtain ⟨A5,J3,h⟩:=bnd h
 have T:=T.mono (((a8.trans d9).trans e1).trans e2)
 refine Ta Z (Cb co48 (QkQ A4 ((rd ((rd a0.Topics b).Parts) r).Add) _ _ _ _ J2 T A5 J3) (QaS Z Z)) Z ?_ ?_
 rintro _ ch _ l1 ⟨_,⟨aO,aP,rfl,rfl,J4⟩,rfl⟩
 refine⟨(Ss Z (Lb 1 pl51 Z Z Z) Z (Ss Z (Fa QmT Z Z) Z (Sl Z))), ?_⟩
 refine WT.a1 ?_
 obtain ⟨A6,J5,h⟩:=bnd h
 have U:=U.mono ((((a8.trans d9).trans e1).trans e2).trans l1)
 refine Ta Z (Cb co48 (QkQ A5 ((rd ((rd a0.Topics b).Parts) r).Drop) _ _ _ _ J4 U A6 J5) (QaS Z Z)) Z ?_ ?_
 rintro _ ci _ w0 ⟨_,⟨J6,J7,rfl,rfl,J8⟩,rfl⟩
 refine⟨(Sl Z), ?_⟩
 refine WT.a1 (Ta Z ((Ag Z).eo) Z ?_ ?_)
 rintro _ _ _ - ⟨rfl,rfl,rfl⟩
 refine⟨(Sl Z), ?_⟩
 refine Ti (Bn (Tc (Cg (qu (Iv (i64.wrap (r+1))) (add X Z) (qm (Iv (i64.wrap (r+1))) (Wz (Qa (Dr (Qb (Qb (WQ.again (A6,i64.wrap (r+1)) (oi h).symm ?_)))))))))))
 exact⟨J6,J7,((((((d7.trans a8).trans d9).trans e1).trans e2).trans l1).trans w0),Z,g2,Z,b9,c0,c1,c2,c3,Z,J8⟩
 exact Tz
 exact Tz
 exact Tz
 exact Tz
 exact Tz
 exact Tz
 exact Tz
 exact Tz
 refine WC.exit (WQ.thenE (WQ.leaveE l0 (oi h).symm (fun w1=> ?_)))
 subst w1
 have h:=I2
 refine WQ.blockH (Bn (Dr ?_))
 obtain rfl:=oi h
 exact Tj ⟨b2,d6,(k9.trans d7),Z,g2,g3,b9,c0,c1,q0⟩
 rintro cj ck cl ⟨d0,d1,w2,rfl,q1,q2,n5,n6,n7,J9⟩
 exact Cg (qu (Iv (i64.wrap (b+1))) (add n7 Z) (qm (Iv (i64.wrap (b+1))) (Wz (WQ.again (k4,i64.wrap (b+1)) (oi h).symm ⟨d0,d1,(c9.trans w2),Z,q1,q2,n5,n6,Z,J9⟩))))
 refine WC.exit (WQ.thenE (WQ.leaveE g1 (oi h).symm (fun w3=> ?_)))
 subst w3
 have h:=F5
 refine WQ.blockH ?_
 obtain rfl:=oi h
 exact Tj ⟨a9,c8,c9,Z,b0,R,h2⟩
 rintro cm cn co ⟨c7,h1,w4,rfl,b3,q3,K0⟩
 have q4:=W6.trans w4
 refine Sr (qM c7 q3 (qu (pt p 2) (Fa QdY b3 Z) (qu l (Lb 0 pl26 Z Z Z) ?_)))
 have J:=J.mono q4
 refine qu (Iv (a0.Configs.length:Int)) (lenS underlying26 Z J.len) ?_
 obtain ⟨X4,K1,h⟩:=bnd h
 refine WL.f1 (We (Cb co45 (Qa4 k3 (a0.Configs.length:Int) _ _ _ K0 X4 K1) (QaS Z Z)) Z ?_)
 rintro _ A7 _ e3 ⟨_,⟨q5,K2,rfl,rfl,K3⟩,rfl⟩
 refine WL.a1 (qa q5 (Nt ?_))
 obtain ⟨l2,K4,h⟩:=bnd h
 refine Jf (fun(l2:(List Int)) o D H'=>∃ e4 h5,A7.le D∧[(p, .cells (l29 a0 k g l m).toArray 29 (0,0))]::h5::F=H'∧o 1=(pt p 0)∧o 5=e4∧OwnS (Kd.int .u8) D e4 l2 h5) l2 ?_ ?_
 have h:=K4
 refine Sr (qu (pt p 2) (Fa QdY b3 Z) (qu l (Lb 1 pl26 Z Z Z) ?_))
 have J:=J.mono e3
 refine qu (Iv (a0.Configs.length:Int)) (lenS underlying26 Z J.len) (qm (Iv 0) (Nt (Bk (WC.f1 ?_))))
 obtain ⟨cp,K5,K6⟩:=bnd h
 clear h
 refine WC.loop K5 (fun(p_:((List Int)×Int)) o D H'=>match p_ with |(a4,d)=>∃ b4 e5,A7.le D∧[(p, .cells (l29 a0 k g l m).toArray 29 (0,0))]::e5::F=H'∧o 1=(pt p 0)∧o 5=b4∧o 113=l∧o 114=(Iv (a0.Configs.length:Int))∧o 115=(Iv d)∧OwnS (Kd.int .u8) D b4 a4 e5) ?_ ?_
 exact⟨q5,K2,lr,Z,b3,Z,Z,Z,Z,K3⟩
 rintro ⟨a4,d⟩ cq cr X5 ct h ⟨b4,e5,e6,rfl,s,e,i,j,f,Y⟩
 unfold Qi3 at h
 refine Sr (qu (Bv (decide (d<(a0.Configs.length:Int)))) (lss f j) (Nt (Cs (Ch h Z (fun K7 h=> ?_) (fun K7 h=> ?_)))))
 refine Ck (Tc ?_)
 obtain ⟨l3,K8,h⟩:=bnd h
 refine Jf (fun(l3:(List Int)) o D H'=>∃ e7 e8,X5.le D∧[(p, .cells (l29 a0 k g l m).toArray 29 (0,0))]::e8::F=H'∧o 1=(pt p 0)∧o 5=e7∧o 113=l∧o 114=(Iv (a0.Configs.length:Int))∧o 115=(Iv d)∧OwnS (Kd.int .u8) D e7 l3 e8) l3 ?_ ?_
 have h:=K8
 refine Bk (Sr ?_)
 obtain ⟨e9,h⟩:=Qa1 h
 have J:=J.mono e6
 obtain ⟨X6,aQ,w5,w6,hhas256⟩:=J.at e9.1 e9.2 (by decide)
 obtain rfl:=QbJ w6
 refine qu (.pointer (some X6)) (indexAddr (n:=a0.Configs.length) underlying26 sz74 i f e9.1 e9.2 w5) (qu (a74_ (rd a0.Configs d)) (loadMA (cs:=(l74 (rd a0.Configs d))) ag74 sz74 Z hhas256) (We (Al ze74 Z) Z ?_))
 rintro _ _ _ - ⟨rfl,q6,rfl,rfl⟩
 refine We (Sg (v:=(a74_ (rd a0.Configs d))) (vl:=(l74 (rd a0.Configs d))) (arr':=(l74 (rd a0.Configs d))) Z sz74 Z Z (onb Z) Z Z Z) Z ?_
 rintro _ _ _ - ⟨rfl,rfl⟩
 refine Nt (WC.draw [0,0,2,7,0,16,48,127,0,256,768,2047,4095] (.pure 0 (.pure 1 (.pure 2 (.pure 4 (.pure 5 (.pure 8 (.pure 9 (.alt 3 (.alt 6 (.alt 7 (.alt 10 (.alt 11 (.alt 12 .done .none) .none) .none) (.alt 10 (.alt 7 (.alt 11 (.alt 12 .done .none) .none) .none) .none)) (.alt 10 (.alt 6 (.alt 7 (.alt 11 (.alt 12 .done .none) .none) .none) .none) .none)) (.alt 6 (.alt 3 (.alt 7 (.alt 10 (.alt 11 (.alt 12 .done .none) .none) .none) (.alt 10 (.alt 7 (.alt 11 (.alt 12 .done .none) .none) .none) .none)) (.alt 10 (.alt 3 (.alt 7 (.alt 11 (.alt 12 .done .none) .none) .none) .none) .none)) (.alt 10 (.alt 3 (.alt 6 (.alt 7 (.alt 11 (.alt 12 .done .none) .none) .none) .none) (.alt 6 (.alt 3 (.alt 7 (.alt 11 (.alt 12 .done .none) .none) .none) .none) .none)) .none)))))))))) Qc3 (by kernel_rfl) (qt b4 Z (Mv e) (qt (pt q6 0) Z (Fa QeP Z Z) (qt (Iv ((rd a0.Configs d).Topic)) Z (Lb 0 pl3 Z Z Z) (qt (pt q6 1) Z (Fa QgQ Z Z) (qt (Sv ((rd a0.Configs d).Key)) Z (Lb 0 pl9 Z Z Z) (qt (pt q6 2) Z (Fa QgR Z Z) (qt (Sv ((rd a0.Configs d).Value)) Z (Lb 0 pl9 Z Z Z) ?_))))))))
 have K9:=h
 obtain ⟨l4,L0,h⟩:=bnd h
 refine WT.f2 (Ta Z (Cb co45 (Qa4 a4 ((rd a0.Configs d).Topic) _ _ _ Y l4 L0) (QaS Z Z)) Z ?_ ?_)
 rintro _ cu _ f0 ⟨_,⟨aR,aS,rfl,rfl,h6⟩,rfl⟩
 refine⟨(Ss Z (Lb 1 pl9 Z Z Z) Z (Ss Z (Fa QgR Z Z) Z (Ss Z (Lb 1 pl9 Z Z Z) Z (Ss Z (Fa QgQ Z Z) Z (Sl Z))))), ?_⟩
 refine WT.a1 ?_
 have L1:=h
 refine Ta Z (s2b underlying9 underlying22 underlying5 Z) Z ?_ ?_
 rintro cv _ _ - ⟨rfl,A8,rfl,l5⟩
 refine⟨(Ss Z (Lb 2 pl9 Z Z Z) Z (Ss Z (Fa QgR Z Z) Z (Sk 2 Z (Ss Z (Lb 2 pl3 Z Z Z) Z (Ss Z (Fa QeP Z Z) Z (Ss Z (Mv e) Z trivial)))))), ?_⟩
 have L2:=h
 obtain ⟨q7,L3,h⟩:=bnd h
 refine WT.f1 (WT.f1 (Ta Z (EO.call2 co46 (Tri.lend l5.excl fun x y c=>(QbF l4 (bytesOf ((rd a0.Configs d).Key)) _ _ _ _ (h6.mono (IM.le_add _ _)) (l5.rs c) q7 L3)) (QaS Z Z)) Z ?_ ?_))
 rintro _ _ _ w7 ⟨_,⟨L4,aT,Z1,rfl,rfl,⟨L5,L6,rfl,rfl,h7⟩⟩,rfl⟩
 have h7:OwnS (Kd.int .u8) (L4.minus A8) L5 q7 L6:=h7.any (Kd.int_flat _)
 refine⟨(Ss Z (Lb 2 pl9 Z Z Z) Z (Ss Z (Fa QgR Z Z) Z (Sl Z))), ?_⟩
 refine WT.a2 (Ta Z (s2b underlying9 underlying22 underlying5 Z) Z ?_ ?_)
 rintro cw _ _ - ⟨rfl,X7,rfl,A9⟩
 refine⟨(Sk 2 Z (Ss Z (Lb 3 pl9 Z Z Z) Z (Ss Z (Fa QgQ Z Z) Z (Ss Z (Lb 3 pl3 Z Z Z) Z (Ss Z (Fa QeP Z Z) Z (Ss Z (Mv e) Z trivial)))))), ?_⟩
 obtain ⟨B0,L7,h⟩:=bnd h
 refine WT.f2 (WT.f1 (Ta Z (EO.call2 co46 (Tri.lend A9.excl fun x y c=>(QbF q7 (bytesOf ((rd a0.Configs d).Value)) _ _ _ _ (h7.mono (IM.le_add _ _)) (A9.rs c) B0 L7)) (QaS Z Z)) Z ?_ ?_))
 rintro _ _ _ w8 ⟨_,⟨L8,aU,Z2,rfl,rfl,⟨q8,q9,rfl,rfl,h8⟩⟩,rfl⟩
 have h8:OwnS (Kd.int .u8) (L8.minus X7) q8 B0 q9:=h8.any (Kd.int_flat _)
 refine⟨(Sl Z), ?_⟩
 refine WT.a2 (Ta Z ((Ag Z).eo) Z ?_ ?_)
 rintro _ _ _ - ⟨rfl,rfl,rfl⟩
 refine⟨(Sl Z), ?_⟩
 refine Ti (Bn (Dr (Qa (Dr (Qa (Dr (Qa ?_)))))))
 obtain rfl:=oi h
 exact Tj ⟨q8,q9,((f0.trans w7).trans w8),Z,s,Z,i,j,f,h8⟩
 exact Tz
 exact Tz
 exact Tz
 have h:=L2
 refine Ta Z (s2b underlying9 underlying22 underlying5 Z) Z ?_ ?_
 rintro cx _ _ - ⟨rfl,X8,rfl,l6⟩
 refine⟨(Sk 2 Z (Ss Z (Lb 3 pl9 Z Z Z) Z (Ss Z (Fa QgQ Z Z) Z (Ss Z (Lb 3 pl3 Z Z Z) Z (Ss Z (Fa QeP Z Z) Z (Ss Z (Mv e) Z trivial)))))), ?_⟩
 obtain ⟨r0,L9,h⟩:=bnd h
 refine WT.f2 (WT.f2 (Ta Z (EO.call2 co46 (Tri.lend l5.excl fun x y c=>(QbF l4 (bytesOf ((rd a0.Configs d).Key)) _ _ _ _ (h6.mono (IM.le_add _ _)) (l5.rs c) r0 L9)) (QaS Z Z)) Z ?_ ?_))
 rintro _ _ _ l7 ⟨_,⟨M0,aV,Z3,rfl,rfl,⟨M1,M2,rfl,rfl,h9⟩⟩,rfl⟩
 have h9:OwnS (Kd.int .u8) (M0.minus A8) M1 r0 M2:=h9.any (Kd.int_flat _)
 refine⟨(Ss Z (Lb 3 pl9 Z Z Z) Z (Ss Z (Fa QgR Z Z) Z (Sl Z))), ?_⟩
 refine WT.a2 ?_
 obtain ⟨B1,M3,h⟩:=bnd h
 refine WT.f1 (WT.f2 ?_)
 have l6:=l6.mono l7
 refine Ta Z (EO.call2 co46 (Tri.lend l6.excl fun x y c=>(QbF r0 (bytesOf ((rd a0.Configs d).Value)) _ _ _ _ (h9.mono (IM.le_add _ _)) (l6.rs c) B1 M3)) (QaS Z Z)) Z ?_ ?_
 rintro _ _ _ w9 ⟨_,⟨M4,aW,Z4,rfl,rfl,⟨r1,r2,rfl,rfl,i0⟩⟩,rfl⟩
 have i0:OwnS (Kd.int .u8) (M4.minus X8) r1 B1 r2:=i0.any (Kd.int_flat _)
 refine⟨(Sl Z), ?_⟩
 refine WT.a2 (Ta Z ((Ag Z).eo) Z ?_ ?_)
 rintro _ _ _ - ⟨rfl,rfl,rfl⟩
 refine⟨(Sl Z), ?_⟩
 refine Ti (Bn (Dr (Qa (Dr (Qa (Dr (Qa ?_)))))))
 obtain rfl:=oi h
 exact Tj ⟨r1,r2,((f0.trans l7).trans w9),Z,s,Z,i,j,f,i0⟩
 exact Tz
 exact Tz
 exact Tz
 exact Tz
 have h:=L1
 refine Ta Z (s2b underlying9 underlying22 underlying5 Z) Z ?_ ?_
 rintro cy _ _ - ⟨rfl,X9,rfl,l8⟩
 refine⟨(Sk 2 Z (Ss Z (Lb 2 pl9 Z Z Z) Z (Ss Z (Fa QgQ Z Z) Z (Ss Z (Lb 2 pl3 Z Z Z) Z (Ss Z (Fa QeP Z Z) Z (Ss Z (Mv e) Z trivial)))))), ?_⟩
 refine Ta Z (s2b underlying9 underlying22 underlying5 Z) Z ?_ ?_
 rintro cz _ _ - ⟨rfl,Y0,rfl,B2⟩
 refine⟨(Ss Z (Lb 3 pl9 Z Z Z) Z (Ss Z (Fa QgR Z Z) Z (Sk 2 Z (Ss Z (Lb 3 pl3 Z Z Z) Z (Ss Z (Fa QeP Z Z) Z (Ss Z (Mv e) Z trivial)))))), ?_⟩
 obtain ⟨r3,M5,h⟩:=bnd h
 refine WT.f2 (WT.f1 (Ta Z (EO.call2 co46 (Tri.lend B2.excl fun x y c=>(QbF l4 (bytesOf ((rd a0.Configs d).Key)) _ _ _ _ (h6.mono (IM.le_add _ _)) (B2.rs c) r3 M5)) (QaS Z Z)) Z ?_ ?_))
 rintro _ _ _ l9 ⟨_,⟨M6,aX,Z5,rfl,rfl,⟨M7,M8,rfl,rfl,i1⟩⟩,rfl⟩
 have i1:OwnS (Kd.int .u8) (M6.minus Y0) M7 r3 M8:=i1.any (Kd.int_flat _)
 refine⟨(Ss Z (Lb 3 pl9 Z Z Z) Z (Ss Z (Fa QgR Z Z) Z (Sl Z))), ?_⟩
 refine WT.a2 ?_
 obtain ⟨B3,M9,h⟩:=bnd h
 refine WT.f1 (WT.f2 ?_)
 have l8:=l8.mono l9
 refine Ta Z (EO.call2 co46 (Tri.lend l8.excl fun x y c=>(QbF r3 (bytesOf ((rd a0.Configs d).Value)) _ _ _ _ (i1.mono (IM.le_add _ _)) (l8.rs c) B3 M9)) (QaS Z Z)) Z ?_ ?_
 rintro _ _ _ x0 ⟨_,⟨N0,aY,Z6,rfl,rfl,⟨r4,r5,rfl,rfl,i2⟩⟩,rfl⟩
 have i2:OwnS (Kd.int .u8) (N0.minus X9) r4 B3 r5:=i2.any (Kd.int_flat _)
 refine⟨(Sl Z), ?_⟩
 refine WT.a2 (Ta Z ((Ag Z).eo) Z ?_ ?_)
 rintro _ _ _ - ⟨rfl,rfl,rfl⟩
 refine⟨(Sl Z), ?_⟩
 refine Ti (Bn (Dr (Qa (Dr (Qa (Dr (Qa ?_)))))))
 obtain rfl:=oi h
 exact Tj ⟨r4,r5,((f0.trans l9).trans x0),Z,s,Z,i,j,f,i2⟩
 exact Tz
 exact Tz
 exact Tz
 exact Tz
 exact Tz
 have h:=K9
 have N1:=h
 refine Ta Z (s2b underlying9 underlying22 underlying5 Z) Z ?_ ?_
 rintro cA _ _ - ⟨rfl,r6,rfl,L⟩
 refine⟨(Ss Z (Lb 2 pl9 Z Z Z) Z (Ss Z (Fa QgR Z Z) Z (Sk 2 Z (Ss Z (Lb 2 pl3 Z Z Z) Z (Ss Z (Fa QeP Z Z) Z (Ss Z (Mv e) Z trivial)))))), ?_⟩
 have N2:=h
 obtain ⟨r7,N3,h⟩:=bnd h
 refine WT.f1 (Ta Z (Cb co45 (Qa4 a4 ((rd a0.Configs d).Topic) _ _ _ Y r7 N3) (QaS Z Z)) Z ?_ ?_)
 rintro _ cB _ f4 ⟨_,⟨aZ,ba,rfl,rfl,r8⟩,rfl⟩
 refine⟨(Ss Z (Lb 2 pl9 Z Z Z) Z (Ss Z (Fa QgR Z Z) Z (Ss Z (Lb 2 pl9 Z Z Z) Z (Ss Z (Fa QgQ Z Z) Z (Sl Z))))), ?_⟩
 refine WT.a1 ?_
 have N4:=h
 obtain ⟨r9,N5,h⟩:=bnd h
 refine WT.f1 ?_
 have L:=L.mono f4
 refine Ta Z (EO.call2 co46 (Tri.lend L.excl fun x y c=>(QbF r7 (bytesOf ((rd a0.Configs d).Key)) _ _ _ _ (r8.mono (IM.le_add _ _)) (L.rs c) r9 N5)) (QaS Z Z)) Z ?_ ?_
 rintro _ _ _ x1 ⟨_,⟨N6,bb,Z7,rfl,rfl,⟨N7,N8,rfl,rfl,i3⟩⟩,rfl⟩
 have i3:OwnS (Kd.int .u8) (N6.minus r6) N7 r9 N8:=i3.any (Kd.int_flat _)
 refine⟨(Ss Z (Lb 2 pl9 Z Z Z) Z (Ss Z (Fa QgR Z Z) Z (Sl Z))), ?_⟩
 refine WT.a2 (Ta Z (s2b underlying9 underlying22 underlying5 Z) Z ?_ ?_)
 rintro cC _ _ - ⟨rfl,Y1,rfl,B4⟩
 refine⟨(Sk 2 Z (Ss Z (Lb 3 pl9 Z Z Z) Z (Ss Z (Fa QgQ Z Z) Z (Ss Z (Lb 3 pl3 Z Z Z) Z (Ss Z (Fa QeP Z Z) Z (Ss Z (Mv e) Z trivial)))))), ?_⟩
 obtain ⟨B5,N9,h⟩:=bnd h
 refine WT.f2 (WT.f1 (Ta Z (EO.call2 co46 (Tri.lend B4.excl fun x y c=>(QbF r9 (bytesOf ((rd a0.Configs d).Value)) _ _ _ _ (i3.mono (IM.le_add _ _)) (B4.rs c) B5 N9)) (QaS Z Z)) Z ?_ ?_))
 rintro _ _ _ x2 ⟨_,⟨O0,bc,Z8,rfl,rfl,⟨s0,s1,rfl,rfl,i4⟩⟩,rfl⟩
 have i4:OwnS (Kd.int .u8) (O0.minus Y1) s0 B5 s1:=i4.any (Kd.int_flat _)
 refine⟨(Sl Z), ?_⟩
 refine WT.a2 (Ta Z ((Ag Z).eo) Z ?_ ?_)
 rintro _ _ _ - ⟨rfl,rfl,rfl⟩
 refine⟨(Sl Z), ?_⟩
 refine Ti (Bn (Dr (Qa (Dr (Qa (Dr (Qa ?_)))))))
 obtain rfl:=oi h
 exact Tj ⟨s0,s1,((f4.trans x1).trans x2),Z,s,Z,i,j,f,i4⟩
 exact Tz
 exact Tz
 exact Tz
 have h:=N4
 refine Ta Z (s2b underlying9 underlying22 underlying5 Z) Z ?_ ?_
 rintro cD _ _ - ⟨rfl,Y2,rfl,m0⟩
 refine⟨(Sk 2 Z (Ss Z (Lb 3 pl9 Z Z Z) Z (Ss Z (Fa QgQ Z Z) Z (Ss Z (Lb 3 pl3 Z Z Z) Z (Ss Z (Fa QeP Z Z) Z (Ss Z (Mv e) Z trivial)))))), ?_⟩
 obtain ⟨s2,O1,h⟩:=bnd h
 refine WT.f2 (WT.f2 (Ta Z (EO.call2 co46 (Tri.lend L.excl fun x y c=>(QbF r7 (bytesOf ((rd a0.Configs d).Key)) _ _ _ _ (r8.mono (IM.le_add _ _)) (L.rs c) s2 O1)) (QaS Z Z)) Z ?_ ?_))
 rintro _ _ _ m1 ⟨_,⟨O2,bd,Z9,rfl,rfl,⟨O3,O4,rfl,rfl,i5⟩⟩,rfl⟩
 have i5:OwnS (Kd.int .u8) (O2.minus r6) O3 s2 O4:=i5.any (Kd.int_flat _)
 refine⟨(Ss Z (Lb 3 pl9 Z Z Z) Z (Ss Z (Fa QgR Z Z) Z (Sl Z))), ?_⟩
 refine WT.a2 ?_
 obtain ⟨B6,O5,h⟩:=bnd h
 refine WT.f1 (WT.f2 ?_)
 have m0:=m0.mono m1
 refine Ta Z (EO.call2 co46 (Tri.lend m0.excl fun x y c=>(QbF s2 (bytesOf ((rd a0.Configs d).Value)) _ _ _ _ (i5.mono (IM.le_add _ _)) (m0.rs c) B6 O5)) (QaS Z Z)) Z ?_ ?_
 rintro _ _ _ x3 ⟨_,⟨O6,be,aa,rfl,rfl,⟨s3,s4,rfl,rfl,i6⟩⟩,rfl⟩
 have i6:OwnS (Kd.int .u8) (O6.minus Y2) s3 B6 s4:=i6.any (Kd.int_flat _)
 refine⟨(Sl Z), ?_⟩
 refine WT.a2 (Ta Z ((Ag Z).eo) Z ?_ ?_)
 rintro _ _ _ - ⟨rfl,rfl,rfl⟩
 refine⟨(Sl Z), ?_⟩
 refine Ti (Bn (Dr (Qa (Dr (Qa (Dr (Qa ?_)))))))
 obtain rfl:=oi h
 exact Tj ⟨s3,s4,((f4.trans m1).trans x3),Z,s,Z,i,j,f,i6⟩
 exact Tz
 exact Tz
 exact Tz
 exact Tz
 have h:=N2
 refine Ta Z (s2b underlying9 underlying22 underlying5 Z) Z ?_ ?_
 rintro cE _ _ - ⟨rfl,Y3,rfl,m2⟩
 refine⟨(Sk 2 Z (Ss Z (Lb 3 pl9 Z Z Z) Z (Ss Z (Fa QgQ Z Z) Z (Ss Z (Lb 3 pl3 Z Z Z) Z (Ss Z (Fa QeP Z Z) Z (Ss Z (Mv e) Z trivial)))))), ?_⟩
 obtain ⟨B7,O7,h⟩:=bnd h
 refine WT.f1 (Ta Z (Cb co45 (Qa4 a4 ((rd a0.Configs d).Topic) _ _ _ Y B7 O7) (QaS Z Z)) Z ?_ ?_)
 rintro _ cF _ f5 ⟨_,⟨bf,bg,rfl,rfl,O8⟩,rfl⟩
 refine⟨(Ss Z (Lb 3 pl9 Z Z Z) Z (Ss Z (Fa QgR Z Z) Z (Ss Z (Lb 3 pl9 Z Z Z) Z (Ss Z (Fa QgQ Z Z) Z (Sl Z))))), ?_⟩
 refine WT.a1 ?_
 obtain ⟨s5,O9,h⟩:=bnd h
 refine WT.f2 ?_
 have L:=L.mono f5
 refine Ta Z (EO.call2 co46 (Tri.lend L.excl fun x y c=>(QbF B7 (bytesOf ((rd a0.Configs d).Key)) _ _ _ _ (O8.mono (IM.le_add _ _)) (L.rs c) s5 O9)) (QaS Z Z)) Z ?_ ?_
 rintro _ _ _ m3 ⟨_,⟨P0,bh,ab,rfl,rfl,⟨P1,P2,rfl,rfl,i7⟩⟩,rfl⟩
 have i7:OwnS (Kd.int .u8) (P0.minus r6) P1 s5 P2:=i7.any (Kd.int_flat _)
 refine⟨(Ss Z (Lb 3 pl9 Z Z Z) Z (Ss Z (Fa QgR Z Z) Z (Sl Z))), ?_⟩
 refine WT.a2 ?_
 obtain ⟨B8,P3,h⟩:=bnd h
 refine WT.f1 (WT.f2 ?_)
 have m2:=m2.mono (f5.trans m3)
 refine Ta Z (EO.call2 co46 (Tri.lend m2.excl fun x y c=>(QbF s5 (bytesOf ((rd a0.Configs d).Value)) _ _ _ _ (i7.mono (IM.le_add _ _)) (m2.rs c) B8 P3)) (QaS Z Z)) Z ?_ ?_
 rintro _ _ _ x4 ⟨_,⟨P4,bi,ac,rfl,rfl,⟨s6,s7,rfl,rfl,i8⟩⟩,rfl⟩
 have i8:OwnS (Kd.int .u8) (P4.minus Y3) s6 B8 s7:=i8.any (Kd.int_flat _)
 refine⟨(Sl Z), ?_⟩
 refine WT.a2 (Ta Z ((Ag Z).eo) Z ?_ ?_)
 rintro _ _ _ - ⟨rfl,rfl,rfl⟩
 refine⟨(Sl Z), ?_⟩
 refine Ti (Bn (Dr (Qa (Dr (Qa (Dr (Qa ?_)))))))
 obtain rfl:=oi h
 exact Tj ⟨s6,s7,((f5.trans m3).trans x4),Z,s,Z,i,j,f,i8⟩
 exact Tz
 exact Tz
 exact Tz
 exact Tz
 exact Tz
 have h:=N1
 refine Ta Z (s2b underlying9 underlying22 underlying5 Z) Z ?_ ?_
 rintro cG _ _ - ⟨rfl,B9,rfl,a5⟩
 refine⟨(Sk 2 Z (Ss Z (Lb 2 pl9 Z Z Z) Z (Ss Z (Fa QgQ Z Z) Z (Ss Z (Lb 2 pl3 Z Z Z) Z (Ss Z (Fa QeP Z Z) Z (Ss Z (Mv e) Z trivial)))))), ?_⟩
 have P5:=h
 obtain ⟨C0,P6,h⟩:=bnd h
 refine WT.f1 (Ta Z (Cb co45 (Qa4 a4 ((rd a0.Configs d).Topic) _ _ _ Y C0 P6) (QaS Z Z)) Z ?_ ?_)
 rintro _ cH _ m4 ⟨_,⟨bj,bk,rfl,rfl,P7⟩,rfl⟩
 refine⟨(Ss Z (Lb 2 pl9 Z Z Z) Z (Ss Z (Fa QgR Z Z) Z (Ss Z (Lb 2 pl9 Z Z Z) Z (Ss Z (Fa QgQ Z Z) Z (Sl Z))))), ?_⟩
 refine WT.a1 (Ta Z (s2b underlying9 underlying22 underlying5 Z) Z ?_ ?_)
 rintro cI _ _ - ⟨rfl,Y4,rfl,C1⟩
 refine⟨(Ss Z (Lb 3 pl9 Z Z Z) Z (Ss Z (Fa QgR Z Z) Z (Sk 2 Z (Ss Z (Lb 3 pl3 Z Z Z) Z (Ss Z (Fa QeP Z Z) Z (Ss Z (Mv e) Z trivial)))))), ?_⟩
 obtain ⟨s8,P8,h⟩:=bnd h
 refine WT.f1 (WT.f1 (Ta Z (EO.call2 co46 (Tri.lend C1.excl fun x y c=>(QbF C0 (bytesOf ((rd a0.Configs d).Key)) _ _ _ _ (P7.mono (IM.le_add _ _)) (C1.rs c) s8 P8)) (QaS Z Z)) Z ?_ ?_))
 rintro _ _ _ m5 ⟨_,⟨P9,bl,ad,rfl,rfl,⟨Q0,Q1,rfl,rfl,i9⟩⟩,rfl⟩
 have i9:OwnS (Kd.int .u8) (P9.minus Y4) Q0 s8 Q1:=i9.any (Kd.int_flat _)
 refine⟨(Ss Z (Lb 3 pl9 Z Z Z) Z (Ss Z (Fa QgR Z Z) Z (Sl Z))), ?_⟩
 refine WT.a2 ?_
 obtain ⟨C2,Q2,h⟩:=bnd h
 refine WT.f1 (WT.f2 ?_)
 have a5:=a5.mono (m4.trans m5)
 refine Ta Z (EO.call2 co46 (Tri.lend a5.excl fun x y c=>(QbF s8 (bytesOf ((rd a0.Configs d).Value)) _ _ _ _ (i9.mono (IM.le_add _ _)) (a5.rs c) C2 Q2)) (QaS Z Z)) Z ?_ ?_
 rintro _ _ _ x5 ⟨_,⟨Q3,bm,ae,rfl,rfl,⟨s9,t0,rfl,rfl,j0⟩⟩,rfl⟩
 have j0:OwnS (Kd.int .u8) (Q3.minus B9) s9 C2 t0:=j0.any (Kd.int_flat _)
 refine⟨(Sl Z), ?_⟩
 refine WT.a2 (Ta Z ((Ag Z).eo) Z ?_ ?_)
 rintro _ _ _ - ⟨rfl,rfl,rfl⟩
 refine⟨(Sl Z), ?_⟩
 refine Ti (Bn (Dr (Qa (Dr (Qa (Dr (Qa ?_)))))))
 obtain rfl:=oi h
 exact Tj ⟨s9,t0,((m4.trans m5).trans x5),Z,s,Z,i,j,f,j0⟩
 exact Tz
 exact Tz
 exact Tz
 exact Tz
 have h:=P5
 refine Ta Z (s2b underlying9 underlying22 underlying5 Z) Z ?_ ?_
 rintro cJ _ _ - ⟨rfl,Y5,rfl,m6⟩
 refine⟨(Ss Z (Lb 3 pl9 Z Z Z) Z (Ss Z (Fa QgR Z Z) Z (Sk 2 Z (Ss Z (Lb 3 pl3 Z Z Z) Z (Ss Z (Fa QeP Z Z) Z (Ss Z (Mv e) Z trivial)))))), ?_⟩
 obtain ⟨C3,Q4,h⟩:=bnd h
 refine WT.f1 (Ta Z (Cb co45 (Qa4 a4 ((rd a0.Configs d).Topic) _ _ _ Y C3 Q4) (QaS Z Z)) Z ?_ ?_)
 rintro _ cK _ f6 ⟨_,⟨bn,bo,rfl,rfl,Q5⟩,rfl⟩
 refine⟨(Ss Z (Lb 3 pl9 Z Z Z) Z (Ss Z (Fa QgR Z Z) Z (Ss Z (Lb 3 pl9 Z Z Z) Z (Ss Z (Fa QgQ Z Z) Z (Sl Z))))), ?_⟩
 refine WT.a1 ?_
 obtain ⟨t1,Q6,h⟩:=bnd h
 refine WT.f1 ?_
 have m6:=m6.mono f6
 refine Ta Z (EO.call2 co46 (Tri.lend m6.excl fun x y c=>(QbF C3 (bytesOf ((rd a0.Configs d).Key)) _ _ _ _ (Q5.mono (IM.le_add _ _)) (m6.rs c) t1 Q6)) (QaS Z Z)) Z ?_ ?_
 rintro _ _ _ m7 ⟨_,⟨Q7,bp,af,rfl,rfl,⟨Q8,Q9,rfl,rfl,j1⟩⟩,rfl⟩
 have j1:OwnS (Kd.int .u8) (Q7.minus Y5) Q8 t1 Q9:=j1.any (Kd.int_flat _)
 refine⟨(Ss Z (Lb 3 pl9 Z Z Z) Z (Ss Z (Fa QgR Z Z) Z (Sl Z))), ?_⟩
 refine WT.a2 ?_
 obtain ⟨C4,R0,h⟩:=bnd h
 refine WT.f1 (WT.f2 ?_)
 have a5:=a5.mono (f6.trans m7)
 refine Ta Z (EO.call2 co46 (Tri.lend a5.excl fun x y c=>(QbF t1 (bytesOf ((rd a0.Configs d).Value)) _ _ _ _ (j1.mono (IM.le_add _ _)) (a5.rs c) C4 R0)) (QaS Z Z)) Z ?_ ?_
 rintro _ _ _ x6 ⟨_,⟨R1,bq,ag,rfl,rfl,⟨t2,t3,rfl,rfl,j2⟩⟩,rfl⟩
 have j2:OwnS (Kd.int .u8) (R1.minus B9) t2 C4 t3:=j2.any (Kd.int_flat _)
 refine⟨(Sl Z), ?_⟩
 refine WT.a2 (Ta Z ((Ag Z).eo) Z ?_ ?_)
 rintro _ _ _ - ⟨rfl,rfl,rfl⟩
 refine⟨(Sl Z), ?_⟩
 refine Ti (Bn (Dr (Qa (Dr (Qa (Dr (Qa ?_)))))))
 obtain rfl:=oi h
 exact Tj ⟨t2,t3,((f6.trans m7).trans x6),Z,s,Z,i,j,f,j2⟩
 exact Tz
 exact Tz
 exact Tz
 exact Tz
 exact Tz
 exact Tz
 rintro cL cM cN ⟨e7,e8,x7,rfl,t4,t5,j3,j4,j5,R2⟩
 exact Cg (qu (Iv (i64.wrap (d+1))) (add j5 Z) (qm (Iv (i64.wrap (d+1))) (Wz (WQ.again (l3,i64.wrap (d+1)) (oi h).symm ⟨e7,e8,(e6.trans x7),Z,t4,t5,j3,j4,Z,R2⟩))))
 refine WC.exit (WQ.thenE (WQ.leaveE a4 (oi h).symm (fun x8=> ?_)))
 subst x8
 have h:=K6
 refine WQ.blockH ?_
 obtain rfl:=oi h
 exact Tj ⟨b4,e5,e6,Z,s,e,Y⟩
 rintro cO cP cQ ⟨e4,h5,m8,rfl,g5,t6,R3⟩
 refine Sr (qM e4 t6 (qu (pt p 3) (Fa QeO g5 Z) (qu m (Lb 0 pl27 Z Z Z) ?_)))
 have K:=K.mono ((q4.trans e3).trans m8)
 refine qu (Iv (a0.Done.length:Int)) (lenS underlying27 Z K.len) ?_
 obtain ⟨Y6,R4,h⟩:=bnd h
 refine WL.f1 (We (Cb co45 (Qa4 l2 (a0.Done.length:Int) _ _ _ R3 Y6 R4) (QaS Z Z)) Z ?_)
 rintro _ C5 _ m9 ⟨_,⟨t7,R5,rfl,rfl,R6⟩,rfl⟩
 refine WL.a1 (qa t7 (Nt ?_))
 obtain ⟨t8,R7,h⟩:=bnd h
 refine Jf (fun(t8:(List Int)) o D H'=>∃ a3 b5,C5.le D∧[(p, .cells (l29 a0 k g l m).toArray 29 (0,0))]::b5::F=H'∧o 5=a3∧OwnS (Kd.int .u8) D a3 t8 b5) t8 ?_ ?_
 have h:=R7
 refine Sr (qu (pt p 3) (Fa QeO g5 Z) (qu m (Lb 1 pl27 Z Z Z) ?_))
 have K:=K.mono m9
 refine qu (Iv (a0.Done.length:Int)) (lenS underlying27 Z K.len) (qm (Iv 0) (Nt (Bk (WC.f1 ?_))))
 obtain ⟨cR,R8,R9⟩:=bnd h
 clear h
 refine WC.loop R8 (fun(p_:((List Int)×Int)) o D H'=>match p_ with |(n0,u)=>∃ b6 f7,C5.le D∧[(p, .cells (l29 a0 k g l m).toArray 29 (0,0))]::f7::F=H'∧o 5=b6∧o 138=m∧o 139=(Iv (a0.Done.length:Int))∧o 140=(Iv u)∧OwnS (Kd.int .u8) D b6 n0 f7) ?_ ?_
 exact⟨t7,R5,lr,Z,Z,Z,Z,Z,R6⟩
 rintro ⟨n0,u⟩ cS cT cU cV h ⟨b6,f7,f8,rfl,g6,b7,b8,N,t9⟩
 unfold Qi4 at h
 refine Sr (qu (Bv (decide (u<(a0.Done.length:Int)))) (lss N b8) (Nt (Cs (Ch h Z (fun S0 h=> ?_) (fun S0 h=> ?_)))))
 refine Ck (Tc (Cs (Bk (Sr ?_))))
 obtain ⟨f9,h⟩:=Qa1 h
 have K:=K.mono f8
 obtain ⟨Y7,br,x9,y0,hhas472⟩:=K.at f9.1 f9.2 (by decide)
 obtain rfl:=QcN y0
 refine qu (.pointer (some Y7)) (indexAddr (n:=a0.Done.length) underlying27 sz78 b7 N f9.1 f9.2 x9) (qu (a78_ (rd a0.Done u)) (loadMA (cs:=(l78 (rd a0.Done u))) ag78 sz78 Z hhas472) (We (Al ze78 Z) Z ?_))
 rintro _ _ _ - ⟨rfl,u0,rfl,rfl⟩
 refine We (Sg (v:=(a78_ (rd a0.Done u))) (vl:=(l78 (rd a0.Done u))) (arr':=(l78 (rd a0.Done u))) Z sz78 Z Z (onb Z) Z Z Z) Z ?_
 rintro _ _ _ - ⟨rfl,rfl⟩
 refine Nt (WC.draw [0,0,2,7,0,16,63,0,128,511,1023] (.pure 0 (.pure 1 (.pure 2 (.pure 4 (.pure 5 (.pure 7 (.pure 8 (.alt 3 (.alt 6 (.alt 9 (.alt 10 .done .none) .none) .none) .none)))))))) Qc3 (by kernel_rfl) (qt b6 Z (Mv g6) (qt (pt u0 0) Z (Fa QrF Z Z) (qt (Iv ((rd a0.Done u).Client)) Z (Lb 0 pl3 Z Z Z) (qt (pt u0 1) Z (Fa QpC Z Z) (qt (Iv ((rd a0.Done u).Serial)) Z (Lb 0 pl3 Z Z Z) (qt (pt u0 2) Z (Fa Qs2 Z Z) (qt (Iv ((rd a0.Done u).Code)) Z (Lb 0 pl3 Z Z Z) ?_))))))))
 obtain ⟨C6,S1,h⟩:=bnd h
 refine WT.f2 (Ta Z (Cb co45 (Qa4 n0 ((rd a0.Done u).Client) _ _ _ t9 C6 S1) (QaS Z Z)) Z ?_ ?_)
 rintro _ cW _ y1 ⟨_,⟨bs,bt,rfl,rfl,S2⟩,rfl⟩
 refine⟨(Ss Z (Lb 1 pl3 Z Z Z) Z (Ss Z (Fa Qs2 Z Z) Z (Ss Z (Lb 1 pl3 Z Z Z) Z (Ss Z (Fa QpC Z Z) Z (Sl Z))))), ?_⟩
 refine WT.a1 ?_
 obtain ⟨C7,S3,h⟩:=bnd h
 refine Ta Z (Cb co45 (Qa4 C6 ((rd a0.Done u).Serial) _ _ _ S2 C7 S3) (QaS Z Z)) Z ?_ ?_
 rintro _ cX _ y2 ⟨_,⟨bu,bv,rfl,rfl,S4⟩,rfl⟩
 refine⟨(Ss Z (Lb 1 pl3 Z Z Z) Z (Ss Z (Fa Qs2 Z Z) Z (Sl Z))), ?_⟩
 refine WT.a1 ?_
 obtain ⟨C8,S5,h⟩:=bnd h
 refine Ta Z (Cb co45 (Qa4 C7 ((rd a0.Done u).Code) _ _ _ S4 C8 S5) (QaS Z Z)) Z ?_ ?_
 rintro _ cY _ y3 ⟨_,⟨S6,S7,rfl,rfl,S8⟩,rfl⟩
 refine⟨(Sl Z), ?_⟩
 refine WT.a1 (Ta Z ((Ag Z).eo) Z ?_ ?_)
 rintro _ _ _ - ⟨rfl,rfl,rfl⟩
 refine⟨(Sl Z), ?_⟩
 exact Ti (Bn (Tc (Cg (qu (Iv (i64.wrap (u+1))) (add N Z) (qm (Iv (i64.wrap (u+1))) (Wz (Qa (Dr (Qa (WQ.again (C8,i64.wrap (u+1)) (oi h).symm ⟨S6,S7,(((f8.trans y1).trans y2).trans y3),Z,Z,b7,b8,Z,S8⟩))))))))))
 exact Tz
 exact Tz
 exact Tz
 exact Tz
 refine WC.exit (WQ.thenE (WQ.leaveE n0 (oi h).symm (fun y4=> ?_)))
 subst y4
 have h:=R9
 refine WQ.blockH ?_
 obtain rfl:=oi h
 exact Tj ⟨b6,f7,f8,Z,g6,t9⟩
 rintro cZ da db ⟨a3,b5,y5,rfl,u1,S9⟩
 exact Sr (qM a3 u1 (qa a3 (qa (GV GErr.nil) (Nt (Cr (Dr (Rf h [b5] Z (Qg1 Z Z Z) ((((q4.trans e3).trans m8).trans m9).trans y5) ⟨a3,b5,Z,Z,S9⟩)))))))
 exact Tz
 exact Tz
noncomputable def QpV (a0:(List Int)):Option QaC:=
 (some (⟨a0,(0:Int),GErr.nil⟩:QaC))
def QtT (a0:(List Int)) (g:Value):QaC→Value→IM→HL→Prop:=
 fun(c:QaC) (v:Value) (e:IM) (f:HL)=>∃ d a,(.pointer (some ⟨d,0,none⟩))=v∧f=[[(d, .cells #[a,(.int .i64 c.at_),(GV c.err)] 108 (0,0))]]∧RS (Kd.int .u8) e a c.b
theorem QvR (a0:(List Int)) (M:IM) (a:Value) (d:RS (Kd.int .u8) M a a0) (c:QaC) (h:QpV a0=some c):
 Tri prog 15 #[a] M [] (QtT a0 a c):=by
 unfold QpV at h
 refine Te func15 Z Z ?_
 intro F f e
 refine Sr (qa (.pointer none) (Ns (qM a (e 0) (qu (.agg #[a,(Iv 0),(GV GErr.nil)]) (Bl (cl:=[a,(Iv 0),(GV GErr.nil)]) Q8J Q8A (Parts.cons ((congrArg Value.cells (show ev _ _=a from Z)).trans d.cells) Pz) Z) (We (box (cs:=#[a,(Iv 0),(GV GErr.nil)]) (congrArg Value.cells (show ev _ _=(.agg #[a,(Iv 0),(GV GErr.nil)]) from Z))) Z ?_)))))
 rintro _ _ _ - ⟨rfl,b,rfl,rfl⟩
 exact qa (pt b 0) (Nt (Cr (Rf h [[(b, .cells #[a,(Iv 0),(GV GErr.nil)] 108 (0,0))]] Z (Rs Z Z) lr ⟨b,a,Z,Z,d⟩)))
noncomputable def QbI (a0:QaC) (a1:ByteArray) (a2:Int) (a3:Int):Option GErr:=
 (if a0.err.isNil=true then((QdQ a1 a2 a3).bind fun a=>(some a))else(some a0.err))
def QmC (a0:QaC) (a1:ByteArray) (a2:Int) (a3:Int) (a:Value) (b:Nat):GErr→Value→IM→HL→Prop:=
 fun(c:GErr) (v:Value) (e:IM) (d:HL)=>(.tuple #[])=v∧d=[[(b, .cells #[a,(.int .i64 a0.at_),(GV c)] 108 (0,0))]]
theorem QcJ (a0:QaC) (a1:ByteArray) (a2:Int) (a3:Int) (M:IM) (a:Value) (c:Nat) (k:RS (Kd.int .u8) M a a0.b) (f:GErr) (h:QbI a0 a1 a2 a3=some f):
 Tri prog 56 #[(pt c 0),(Sv a1),(Iv a2),(Iv a3)] M [[(c, .cells #[a,(Iv a0.at_),(GV a0.err)] 108 (0,0))]] (QmC a0 a1 a2 a3 a c f):=by
 unfold QbI at h
 refine Te func56 Z Z ?_
 intro F m g
 refine Sr (qM (pt c 0) (g 0) (qu (pt c 0) (Nk Z) (qu (pt c 2) (Fa QmL Z Z) (qu (GV a0.err) (Lb 0 pl31 Z Z Z) (qu (Bv a0.err.isNil) (errNil underlying31 Z) (Nt (Ch h Z (fun i h=> ?_) (fun i h=> ?_))))))))
 refine Cg (qM (pt c 0) (g 0) (qM (Sv a1) (g 1) (qM (Iv a2) (g 2) (qM (Iv a3) (g 3) ?_))))
 obtain ⟨d,j,h⟩:=bnd h
 refine We (Ca co54 (QdH a1 a2 a3 _ d j) (QcV Z Z Z)) Z ?_
 rintro _ l _ e ⟨_,⟨rfl,rfl⟩,rfl⟩
 refine WL.a0 (qu (pt c 0) (Nk Z) (qu (pt c 2) (Fa QmL Z Z) (We (Es (GV d) [a,(Iv a0.at_),(GV d)] (GErr.val_cells _ _ _ _) sz31 Z Z (GErr.val_one _ _ _ _) Z Z Z) Z ?_)))
 rintro _ _ _ - ⟨rfl,rfl⟩
 exact Wz (WQ.endsF h [[(c, .cells #[a,(Iv a0.at_),(GV d)] 108 (0,0))]] Z (Qt6 Z) e ⟨Z,Z⟩)
 exact Ck (WQ.endsF h [[(c, .cells #[a,(Iv a0.at_),(GV a0.err)] 108 (0,0))]] Z (Qt6 Z) lr ⟨Z,Z⟩)
noncomputable def QaU (a0:Int) (a1:(List Int)) (a2:Int):Option (Int×Int):=
 (grd (0≤a2∧a2<a1.length) (some (orI .u64 (shlI .u64 a0 (8:Int)) (u64.wrap (rd a1 a2)),i64.wrap (a2+(1:Int)))))
def QlY (a0:Int) (a1:(List Int)) (a2:Int) (a:Value) (b c d:Nat):(Int×Int)→Value→IM→HL→Prop:=
 fun(e:(Int×Int)) (v:Value) (j:IM) (f:HL)=>match e with |(g,i)=>(.tuple #[])=v∧f=[[(b, .cells #[(.int .u64 g)] 109 (0,0))],[(c, .cells #[a] 22 (0,0))],[(d, .cells #[(.int .i64 i)] 3 (0,0))]]
theorem QcQ (a0:Int) (a1:(List Int)) (a2:Int) (M:IM) (e:Value) (g i j:Nat) (m:RS (Kd.int .u8) M e a1) (f:(Int×Int)) (h:QaU a0 a1 a2=some f):
 Tri prog 85 #[(pt g 0),(pt i 0),(pt j 0)] M [[(g, .cells #[(Uv a0)] 109 (0,0))],[(i, .cells #[e] 22 (0,0))],[(j, .cells #[(Iv a2)] 3 (0,0))]] (QlY a0 a1 a2 e g i j f):=by
 unfold QaU at h
 refine Te func85 Z Z ?_
 intro F o d
 refine Cs (WC.draw [0,1,0,0,12,28,60,127,255] (.pure 0 (.pure 1 (.pure 2 (.pure 3 (.pure 4 (.pure 5 (.pure 6 (.pure 7 (.alt 8 .done .none))))))))) Qc3 (by kernel_rfl) (qt (Uv a0) Z (Lb 0 Q1M (d 0) Z Z) (qt (Uv (shlI .u64 a0 (8:Int))) Z (shl Z Z (by decide)) (qt e Z (Lb 1 pl22 (d 1) Z Z) (qt (Iv a2) Z (Lb 2 pl3 (d 2) Z Z) ?_)))))
 obtain ⟨a,h⟩:=Qa1 h
 obtain ⟨k,l,b,c,hhas26⟩:=m.at a.1 a.2 (by decide)
 obtain rfl:=c
 refine qt (.pointer (some k)) Z (indexAddr (n:=a1.length) underlying22 sz5 Z Z a.1 a.2 b) (qt (Yv (rd a1 a2)) Z (loadM pl5 Z (IM.has0 hhas26)) (qt (Uv (u64.wrap (rd a1 a2))) Z (conv us5 underlying109 Z) (qt (Uv (orI .u64 (shlI .u64 a0 (8:Int)) (u64.wrap (rd a1 a2)))) Z (PO.or Z Z) (Ta Z (Es (Uv (orI .u64 (shlI .u64 a0 (8:Int)) (u64.wrap (rd a1 a2)))) [(Uv (orI .u64 (shlI .u64 a0 (8:Int)) (u64.wrap (rd a1 a2))))] Z Q52 (d 0) Z Z Z Z Z) Z ?_ ?_))))
 rintro _ _ _ - ⟨rfl,rfl⟩
 refine⟨(Sl Z), ?_⟩
 refine Ti (Tc (Cg (qu (Iv a2) (Lb 2 pl3 (d 2) Z Z) (qu (Iv (i64.wrap (a2+1))) (add Z Z) (Wb (We (Es (Iv (i64.wrap (a2+1))) [(Iv (i64.wrap (a2+1)))] Z sz3 (d 2) Z Z Z Z Z) Z ?_))))))
 rintro _ _ _ - ⟨rfl,rfl⟩
 exact Wz (Qb (Qb (WQ.endsF h [[(g, .cells #[(Uv (orI .u64 (shlI .u64 a0 (8:Int)) (u64.wrap (rd a1 a2))))] 109 (0,0))],[(i, .cells #[e] 22 (0,0))],[(j, .cells #[(Iv (i64.wrap (a2+1)))] 3 (0,0))]] Z (Qt6 Z) lr ⟨Z,Z⟩)))
 exact Tz

end Go.Proofs.YtfkmkgpoddbbfaaGreatDoor.G
