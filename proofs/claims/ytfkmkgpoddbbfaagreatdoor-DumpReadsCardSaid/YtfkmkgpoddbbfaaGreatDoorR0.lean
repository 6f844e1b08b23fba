/- Go functions: what they come to, and that they do. Printed by a program of the session (gen). -/
import Derived.Test.YtfkmkgpoddbbfaaGreatDoorRF
import Derived.Test.YtfkmkgpoddbbfaaGreatDoorKShar2
import Derived.Test.YtfkmkgpoddbbfaaGreatDoorKConv
import Derived.Test.YtfkmkgpoddbbfaaGreatDoorKMap
import Derived.Test.YtfkmkgpoddbbfaaGreatDoorKTight2
set_option linter.unusedVariables false
set_option linter.unusedSimpArgs false
set_option maxHeartbeats 8000000
set_option maxRecDepth 100000
namespace Go.Proofs.YtfkmkgpoddbbfaaGreatDoor.G
open Go Go.KK
open PO EO IntKind Sum Tryz

noncomputable def Ql7:Option (List QaO):=
 (some [Q4S,Q4Q,Q4R,Q4P,Q4T,Q4U])
def QqE:(List QaO)→Value→IM→HL→Prop:=
 fun(c:(List QaO)) (v:Value) (d:IM) (e:HL)=>∃ a b,a=v∧e=[b]∧OwnS Qi5 d a c b
theorem Qs7 (M:IM) (i:(List QaO)) (h:Ql7=some i):
 Tri prog 12 #[] M [] (QqE i):=by
 unfold Ql7 at h
 refine Te func12 Z Z ?_
 intro F n m
 refine Sr (qa Zs (Ns (qu (.agg #[(Iv 2),(Iv 1),(Iv 1),(Iv 0),(Iv 0),(Iv 0),(Iv 0),(Iv 0),(Iv 0),(Bv false),(Sv ⟨#[]⟩),(Sv ⟨#[]⟩),(Sv ⟨#[]⟩),(Sv ⟨#[97]⟩),Zs,Zs,Zs,Zs]) (Bl (cl:=[(Iv 2),(Iv 1),(Iv 1),(Iv 0),(Iv 0),(Iv 0),(Iv 0),(Iv 0),(Iv 0),(Bv false),(Sv ⟨#[]⟩),(Sv ⟨#[]⟩),(Sv ⟨#[]⟩),(Sv ⟨#[97]⟩),Zs,Zs,Zs,Zs]) Q0Q Q0N (Pc (Iv 2) Z Z (Pc (Iv 1) Z Z (Pc (Iv 1) Z Z (Pc (Sv ⟨#[97]⟩) Z Z Pz)))) Z) (qu (.agg #[(Iv 4),(Iv 1),(Iv 1),(Iv 0),(Iv 0),(Iv 0),(Iv 0),(Iv 0),(Iv 0),(Bv false),(Sv ⟨#[]⟩),(Sv ⟨#[]⟩),(Sv ⟨#[]⟩),(Sv ⟨#[]⟩),Zs,Zs,Zs,Zs]) (Bl (cl:=[(Iv 4),(Iv 1),(Iv 1),(Iv 0),(Iv 0),(Iv 0),(Iv 0),(Iv 0),(Iv 0),(Bv false),(Sv ⟨#[]⟩),(Sv ⟨#[]⟩),(Sv ⟨#[]⟩),(Sv ⟨#[]⟩),Zs,Zs,Zs,Zs]) Q0Q Q0N (Pc (Iv 4) Z Z (Pc (Iv 1) Z Z (Pc (Iv 1) Z Z Pz))) Z) (qu (.agg #[(Iv 2),(Iv 2),(Iv 1),(Iv 0),(Iv 0),(Iv 0),(Iv 0),(Iv 0),(Iv 0),(Bv false),(Sv ⟨#[]⟩),(Sv ⟨#[]⟩),(Sv ⟨#[]⟩),(Sv ⟨#[98]⟩),Zs,Zs,Zs,Zs]) (Bl (cl:=[(Iv 2),(Iv 2),(Iv 1),(Iv 0),(Iv 0),(Iv 0),(Iv 0),(Iv 0),(Iv 0),(Bv false),(Sv ⟨#[]⟩),(Sv ⟨#[]⟩),(Sv ⟨#[]⟩),(Sv ⟨#[98]⟩),Zs,Zs,Zs,Zs]) Q0Q Q0N (Pc (Iv 2) Z Z (Pc (Iv 2) Z Z (Pc (Iv 1) Z Z (Pc (Sv ⟨#[98]⟩) Z Z Pz)))) Z) (qu (.agg #[(Iv 4),(Iv 2),(Iv 1),(Iv 0),(Iv 0),(Iv 0),(Iv 0),(Iv 0),(Iv 0),(Bv false),(Sv ⟨#[]⟩),(Sv ⟨#[]⟩),(Sv ⟨#[]⟩),(Sv ⟨#[]⟩),Zs,Zs,Zs,Zs]) (Bl (cl:=[(Iv 4),(Iv 2),(Iv 1),(Iv 0),(Iv 0),(Iv 0),(Iv 0),(Iv 0),(Iv 0),(Bv false),(Sv ⟨#[]⟩),(Sv ⟨#[]⟩),(Sv ⟨#[]⟩),(Sv ⟨#[]⟩),Zs,Zs,Zs,Zs]) Q0Q Q0N (Pc (Iv 4) Z Z (Pc (Iv 2) Z Z (Pc (Iv 1) Z Z Pz))) Z) (qu (.agg #[(Iv 7),(Iv 0),(Iv 0),(Iv 1),(Iv 0),(Iv 0),(Iv 0),(Iv 0),(Iv 0),(Bv false),(Sv ⟨#[116]⟩),(Sv ⟨#[]⟩),(Sv ⟨#[]⟩),(Sv ⟨#[]⟩),Zs,Zs,Zs,Zs]) (Bl (cl:=[(Iv 7),(Iv 0),(Iv 0),(Iv 1),(Iv 0),(Iv 0),(Iv 0),(Iv 0),(Iv 0),(Bv false),(Sv ⟨#[116]⟩),(Sv ⟨#[]⟩),(Sv ⟨#[]⟩),(Sv ⟨#[]⟩),Zs,Zs,Zs,Zs]) Q0Q Q0N (Pc (Iv 7) Z Z (Pc (Iv 1) Z Z (Pc (Sv ⟨#[116]⟩) Z Z Pz))) Z) (We (buildSliceL (cl:=[(Iv 1),(Iv 2)]) underlying51 iz3 Z (Pc (Iv 1) Z Z (Pc (Iv 2) Z Z Pz)) Z) Z ?_))))))))
 rintro _ _ _ - ⟨rfl,a,rfl,rfl⟩
 have j:OwnS (Kd.int .i64) M (.slice (some ⟨a,0,none⟩) 2 2) [(1:Int),(2:Int)] [(a, .cells #[(Iv 1),(Iv 2)] 3 (0,0))]:=OwnS.rows (css:=[[(Iv 1)],[(Iv 2)]]) (Rows.cons Z (Rows.cons Z Rows.nil)) Z Z
 refine We (buildSliceL (cl:=[(Iv 1),(Iv 2)]) underlying51 iz3 Z (Pc (Iv 1) Z Z (Pc (Iv 2) Z Z Pz)) Z) Z ?_
 rintro _ _ _ - ⟨rfl,b,rfl,rfl⟩
 have g:OwnS (Kd.int .i64) M (.slice (some ⟨b,0,none⟩) 2 2) [(1:Int),(2:Int)] [(b, .cells #[(Iv 1),(Iv 2)] 3 (0,0))]:=OwnS.rows (css:=[[(Iv 1)],[(Iv 2)]]) (Rows.cons Z (Rows.cons Z Rows.nil)) Z Z
 refine qu (.agg #[(Iv 8),(Iv 0),(Iv 0),(Iv 1),(Iv 0),(Iv 1),(Iv 0),(Iv 0),(Iv 0),(Bv false),(Sv ⟨#[]⟩),(Sv ⟨#[]⟩),(Sv ⟨#[]⟩),(Sv ⟨#[]⟩),(.slice (some ⟨a,0,none⟩) 2 2),(.slice (some ⟨b,0,none⟩) 2 2),Zs,Zs]) (Bl (cl:=[(Iv 8),(Iv 0),(Iv 0),(Iv 1),(Iv 0),(Iv 1),(Iv 0),(Iv 0),(Iv 0),(Bv false),(Sv ⟨#[]⟩),(Sv ⟨#[]⟩),(Sv ⟨#[]⟩),(Sv ⟨#[]⟩),(.slice (some ⟨a,0,none⟩) 2 2),(.slice (some ⟨b,0,none⟩) 2 2),Zs,Zs]) Q0Q Q0N (Pc (Iv 8) Z Z (Pc (Iv 1) Z Z (Parts.cons ((congrArg Value.cells (show ev _ _=(.slice (some ⟨a,0,none⟩) 2 2) from Z)).trans j.cells) (Parts.cons ((congrArg Value.cells (show ev _ _=(.slice (some ⟨b,0,none⟩) 2 2) from Z)).trans g.cells) (Pc (Iv 1) Z Z Pz))))) Z) (WL.f1 (WL.know (fun _ hs=>j.rs hs) (fun d=> ?_)))
 refine WL.freeze (fun e=> ?_)
 have g:=g.mono e
 refine WL.know (fun _ hs=>g.rs hs) (fun k=> ?_)
 refine WL.freeze (fun f=> ?_)
 refine We (buildSliceL (cl:=[(Iv 2),(Iv 1),(Iv 1),(Iv 0),(Iv 0),(Iv 0),(Iv 0),(Iv 0),(Iv 0),(Bv false),(Sv ⟨#[]⟩),(Sv ⟨#[]⟩),(Sv ⟨#[]⟩),(Sv ⟨#[97]⟩),Zs,Zs,Zs,Zs,(Iv 4),(Iv 1),(Iv 1),(Iv 0),(Iv 0),(Iv 0),(Iv 0),(Iv 0),(Iv 0),(Bv false),(Sv ⟨#[]⟩),(Sv ⟨#[]⟩),(Sv ⟨#[]⟩),(Sv ⟨#[]⟩),Zs,Zs,Zs,Zs,(Iv 2),(Iv 2),(Iv 1),(Iv 0),(Iv 0),(Iv 0),(Iv 0),(Iv 0),(Iv 0),(Bv false),(Sv ⟨#[]⟩),(Sv ⟨#[]⟩),(Sv ⟨#[]⟩),(Sv ⟨#[98]⟩),Zs,Zs,Zs,Zs,(Iv 4),(Iv 2),(Iv 1),(Iv 0),(Iv 0),(Iv 0),(Iv 0),(Iv 0),(Iv 0),(Bv false),(Sv ⟨#[]⟩),(Sv ⟨#[]⟩),(Sv ⟨#[]⟩),(Sv ⟨#[]⟩),Zs,Zs,Zs,Zs,(Iv 7),(Iv 0),(Iv 0),(Iv 1),(Iv 0),(Iv 0),(Iv 0),(Iv 0),(Iv 0),(Bv false),(Sv ⟨#[116]⟩),(Sv ⟨#[]⟩),(Sv ⟨#[]⟩),(Sv ⟨#[]⟩),Zs,Zs,Zs,Zs,(Iv 8),(Iv 0),(Iv 0),(Iv 1),(Iv 0),(Iv 1),(Iv 0),(Iv 0),(Iv 0),(Bv false),(Sv ⟨#[]⟩),(Sv ⟨#[]⟩),(Sv ⟨#[]⟩),(Sv ⟨#[]⟩),(.slice (some ⟨a,0,none⟩) 2 2),(.slice (some ⟨b,0,none⟩) 2 2),Zs,Zs]) underlying46 Q8B Z (Pc (.agg #[(Iv 2),(Iv 1),(Iv 1),(Iv 0),(Iv 0),(Iv 0),(Iv 0),(Iv 0),(Iv 0),(Bv false),(Sv ⟨#[]⟩),(Sv ⟨#[]⟩),(Sv ⟨#[]⟩),(Sv ⟨#[97]⟩),Zs,Zs,Zs,Zs]) Z Z (Pc (.agg #[(Iv 4),(Iv 1),(Iv 1),(Iv 0),(Iv 0),(Iv 0),(Iv 0),(Iv 0),(Iv 0),(Bv false),(Sv ⟨#[]⟩),(Sv ⟨#[]⟩),(Sv ⟨#[]⟩),(Sv ⟨#[]⟩),Zs,Zs,Zs,Zs]) Z Z (Pc (.agg #[(Iv 2),(Iv 2),(Iv 1),(Iv 0),(Iv 0),(Iv 0),(Iv 0),(Iv 0),(Iv 0),(Bv false),(Sv ⟨#[]⟩),(Sv ⟨#[]⟩),(Sv ⟨#[]⟩),(Sv ⟨#[98]⟩),Zs,Zs,Zs,Zs]) Z Z (Pc (.agg #[(Iv 4),(Iv 2),(Iv 1),(Iv 0),(Iv 0),(Iv 0),(Iv 0),(Iv 0),(Iv 0),(Bv false),(Sv ⟨#[]⟩),(Sv ⟨#[]⟩),(Sv ⟨#[]⟩),(Sv ⟨#[]⟩),Zs,Zs,Zs,Zs]) Z Z (Pc (.agg #[(Iv 7),(Iv 0),(Iv 0),(Iv 1),(Iv 0),(Iv 0),(Iv 0),(Iv 0),(Iv 0),(Bv false),(Sv ⟨#[116]⟩),(Sv ⟨#[]⟩),(Sv ⟨#[]⟩),(Sv ⟨#[]⟩),Zs,Zs,Zs,Zs]) Z Z (Pc (.agg #[(Iv 8),(Iv 0),(Iv 0),(Iv 1),(Iv 0),(Iv 1),(Iv 0),(Iv 0),(Iv 0),(Bv false),(Sv ⟨#[]⟩),(Sv ⟨#[]⟩),(Sv ⟨#[]⟩),(Sv ⟨#[]⟩),(.slice (some ⟨a,0,none⟩) 2 2),(.slice (some ⟨b,0,none⟩) 2 2),Zs,Zs]) Z Z Pz)))))) Z) Z ?_
 rintro _ _ _ - ⟨rfl,c,rfl,rfl⟩
 have d:=d.mono f
 have l:OwnS Qi5 ((M.add [(a, .cells #[(Iv 1),(Iv 2)] 3 (0,0))]).add [(b, .cells #[(Iv 1),(Iv 2)] 3 (0,0))]) (.slice (some ⟨c,0,none⟩) 6 6) [Q4S,Q4Q,Q4R,Q4P,Q4T,Q4U] [(c, .cells #[(Iv 2),(Iv 1),(Iv 1),(Iv 0),(Iv 0),(Iv 0),(Iv 0),(Iv 0),(Iv 0),(Bv false),(Sv ⟨#[]⟩),(Sv ⟨#[]⟩),(Sv ⟨#[]⟩),(Sv ⟨#[97]⟩),Zs,Zs,Zs,Zs,(Iv 4),(Iv 1),(Iv 1),(Iv 0),(Iv 0),(Iv 0),(Iv 0),(Iv 0),(Iv 0),(Bv false),(Sv ⟨#[]⟩),(Sv ⟨#[]⟩),(Sv ⟨#[]⟩),(Sv ⟨#[]⟩),Zs,Zs,Zs,Zs,(Iv 2),(Iv 2),(Iv 1),(Iv 0),(Iv 0),(Iv 0),(Iv 0),(Iv 0),(Iv 0),(Bv false),(Sv ⟨#[]⟩),(Sv ⟨#[]⟩),(Sv ⟨#[]⟩),(Sv ⟨#[98]⟩),Zs,Zs,Zs,Zs,(Iv 4),(Iv 2),(Iv 1),(Iv 0),(Iv 0),(Iv 0),(Iv 0),(Iv 0),(Iv 0),(Bv false),(Sv ⟨#[]⟩),(Sv ⟨#[]⟩),(Sv ⟨#[]⟩),(Sv ⟨#[]⟩),Zs,Zs,Zs,Zs,(Iv 7),(Iv 0),(Iv 0),(Iv 1),(Iv 0),(Iv 0),(Iv 0),(Iv 0),(Iv 0),(Bv false),(Sv ⟨#[116]⟩),(Sv ⟨#[]⟩),(Sv ⟨#[]⟩),(Sv ⟨#[]⟩),Zs,Zs,Zs,Zs,(Iv 8),(Iv 0),(Iv 0),(Iv 1),(Iv 0),(Iv 1),(Iv 0),(Iv 0),(Iv 0),(Bv false),(Sv ⟨#[]⟩),(Sv ⟨#[]⟩),(Sv ⟨#[]⟩),(Sv ⟨#[]⟩),(.slice (some ⟨a,0,none⟩) 2 2),(.slice (some ⟨b,0,none⟩) 2 2),Zs,Zs] 102 (0,0))]:=OwnS.rows (css:=[[(Iv 2),(Iv 1),(Iv 1),(Iv 0),(Iv 0),(Iv 0),(Iv 0),(Iv 0),(Iv 0),(Bv false),(Sv ⟨#[]⟩),(Sv ⟨#[]⟩),(Sv ⟨#[]⟩),(Sv ⟨#[97]⟩),Zs,Zs,Zs,Zs],[(Iv 4),(Iv 1),(Iv 1),(Iv 0),(Iv 0),(Iv 0),(Iv 0),(Iv 0),(Iv 0),(Bv false),(Sv ⟨#[]⟩),(Sv ⟨#[]⟩),(Sv ⟨#[]⟩),(Sv ⟨#[]⟩),Zs,Zs,Zs,Zs],[(Iv 2),(Iv 2),(Iv 1),(Iv 0),(Iv 0),(Iv 0),(Iv 0),(Iv 0),(Iv 0),(Bv false),(Sv ⟨#[]⟩),(Sv ⟨#[]⟩),(Sv ⟨#[]⟩),(Sv ⟨#[98]⟩),Zs,Zs,Zs,Zs],[(Iv 4),(Iv 2),(Iv 1),(Iv 0),(Iv 0),(Iv 0),(Iv 0),(Iv 0),(Iv 0),(Bv false),(Sv ⟨#[]⟩),(Sv ⟨#[]⟩),(Sv ⟨#[]⟩),(Sv ⟨#[]⟩),Zs,Zs,Zs,Zs],[(Iv 7),(Iv 0),(Iv 0),(Iv 1),(Iv 0),(Iv 0),(Iv 0),(Iv 0),(Iv 0),(Bv false),(Sv ⟨#[116]⟩),(Sv ⟨#[]⟩),(Sv ⟨#[]⟩),(Sv ⟨#[]⟩),Zs,Zs,Zs,Zs],[(Iv 8),(Iv 0),(Iv 0),(Iv 1),(Iv 0),(Iv 1),(Iv 0),(Iv 0),(Iv 0),(Bv false),(Sv ⟨#[]⟩),(Sv ⟨#[]⟩),(Sv ⟨#[]⟩),(Sv ⟨#[]⟩),(.slice (some ⟨a,0,none⟩) 2 2),(.slice (some ⟨b,0,none⟩) 2 2),Zs,Zs]]) (Rows.cons (Qe1 (x:=Q4S) (RS.nil _ _) (RS.nil _ _) (RS.nil _ _) (RS.nil _ _)) (Rows.cons (Qe1 (x:=Q4Q) (RS.nil _ _) (RS.nil _ _) (RS.nil _ _) (RS.nil _ _)) (Rows.cons (Qe1 (x:=Q4R) (RS.nil _ _) (RS.nil _ _) (RS.nil _ _) (RS.nil _ _)) (Rows.cons (Qe1 (x:=Q4P) (RS.nil _ _) (RS.nil _ _) (RS.nil _ _) (RS.nil _ _)) (Rows.cons (Qe1 (x:=Q4T) (RS.nil _ _) (RS.nil _ _) (RS.nil _ _) (RS.nil _ _)) (Rows.cons (Qe1 (x:=Q4U) d k (RS.nil _ _) (RS.nil _ _)) Rows.nil)))))) Z Z
 exact qa (.slice (some ⟨c,0,none⟩) 6 6) (Nt (Cr (Rf h [[(c, .cells #[(Iv 2),(Iv 1),(Iv 1),(Iv 0),(Iv 0),(Iv 0),(Iv 0),(Iv 0),(Iv 0),(Bv false),(Sv ⟨#[]⟩),(Sv ⟨#[]⟩),(Sv ⟨#[]⟩),(Sv ⟨#[97]⟩),Zs,Zs,Zs,Zs,(Iv 4),(Iv 1),(Iv 1),(Iv 0),(Iv 0),(Iv 0),(Iv 0),(Iv 0),(Iv 0),(Bv false),(Sv ⟨#[]⟩),(Sv ⟨#[]⟩),(Sv ⟨#[]⟩),(Sv ⟨#[]⟩),Zs,Zs,Zs,Zs,(Iv 2),(Iv 2),(Iv 1),(Iv 0),(Iv 0),(Iv 0),(Iv 0),(Iv 0),(Iv 0),(Bv false),(Sv ⟨#[]⟩),(Sv ⟨#[]⟩),(Sv ⟨#[]⟩),(Sv ⟨#[98]⟩),Zs,Zs,Zs,Zs,(Iv 4),(Iv 2),(Iv 1),(Iv 0),(Iv 0),(Iv 0),(Iv 0),(Iv 0),(Iv 0),(Bv false),(Sv ⟨#[]⟩),(Sv ⟨#[]⟩),(Sv ⟨#[]⟩),(Sv ⟨#[]⟩),Zs,Zs,Zs,Zs,(Iv 7),(Iv 0),(Iv 0),(Iv 1),(Iv 0),(Iv 0),(Iv 0),(Iv 0),(Iv 0),(Bv false),(Sv ⟨#[116]⟩),(Sv ⟨#[]⟩),(Sv ⟨#[]⟩),(Sv ⟨#[]⟩),Zs,Zs,Zs,Zs,(Iv 8),(Iv 0),(Iv 0),(Iv 1),(Iv 0),(Iv 1),(Iv 0),(Iv 0),(Iv 0),(Bv false),(Sv ⟨#[]⟩),(Sv ⟨#[]⟩),(Sv ⟨#[]⟩),(Sv ⟨#[]⟩),(.slice (some ⟨a,0,none⟩) 2 2),(.slice (some ⟨b,0,none⟩) 2 2),Zs,Zs] 102 (0,0))]] Z (Rs Z Z) (e.trans f) ⟨(.slice (some ⟨c,0,none⟩) 6 6),[(c, .cells #[(Iv 2),(Iv 1),(Iv 1),(Iv 0),(Iv 0),(Iv 0),(Iv 0),(Iv 0),(Iv 0),(Bv false),(Sv ⟨#[]⟩),(Sv ⟨#[]⟩),(Sv ⟨#[]⟩),(Sv ⟨#[97]⟩),Zs,Zs,Zs,Zs,(Iv 4),(Iv 1),(Iv 1),(Iv 0),(Iv 0),(Iv 0),(Iv 0),(Iv 0),(Iv 0),(Bv false),(Sv ⟨#[]⟩),(Sv ⟨#[]⟩),(Sv ⟨#[]⟩),(Sv ⟨#[]⟩),Zs,Zs,Zs,Zs,(Iv 2),(Iv 2),(Iv 1),(Iv 0),(Iv 0),(Iv 0),(Iv 0),(Iv 0),(Iv 0),(Bv false),(Sv ⟨#[]⟩),(Sv ⟨#[]⟩),(Sv ⟨#[]⟩),(Sv ⟨#[98]⟩),Zs,Zs,Zs,Zs,(Iv 4),(Iv 2),(Iv 1),(Iv 0),(Iv 0),(Iv 0),(Iv 0),(Iv 0),(Iv 0),(Bv false),(Sv ⟨#[]⟩),(Sv ⟨#[]⟩),(Sv ⟨#[]⟩),(Sv ⟨#[]⟩),Zs,Zs,Zs,Zs,(Iv 7),(Iv 0),(Iv 0),(Iv 1),(Iv 0),(Iv 0),(Iv 0),(Iv 0),(Iv 0),(Bv false),(Sv ⟨#[116]⟩),(Sv ⟨#[]⟩),(Sv ⟨#[]⟩),(Sv ⟨#[]⟩),Zs,Zs,Zs,Zs,(Iv 8),(Iv 0),(Iv 0),(Iv 1),(Iv 0),(Iv 1),(Iv 0),(Iv 0),(Iv 0),(Bv false),(Sv ⟨#[]⟩),(Sv ⟨#[]⟩),(Sv ⟨#[]⟩),(Sv ⟨#[]⟩),(.slice (some ⟨a,0,none⟩) 2 2),(.slice (some ⟨b,0,none⟩) 2 2),Zs,Zs] 102 (0,0))],Z,Z,l⟩)))
noncomputable def Qo8 (a1:Int) (b:ByteArray) (c:Int):Option (Int⊕(Unit⊕Unit)):=
 match c with
 |a=>
 (if(decide (a<(b.size:Int)))=true then(grd (0≤a∧a<b.size) (if(decide ((btAt b a)=a1))=true then(some (inr (inr ())))else(some (inl (i64.wrap (a+(1:Int)))))))else(some (inr (inl ()))))
noncomputable def QcM (a0:Int) (a1:Int):Option Bool:=
 (((if(decide (a0=(2:Int)))=true then(some (⟨#[98,101,114]⟩:ByteArray))else(((if(decide (a0=(3:Int)))=true then(some (decide (a0=(3:Int))))else(if(decide (a0=(4:Int)))=true then(some (decide (a0=(4:Int))))else(if(decide (a0=(5:Int)))=true then(some (decide (a0=(5:Int))))else(some (decide (a0=(6:Int))))))):Option Bool).bind fun a=>(if a=true then(some (⟨#[98,101]⟩:ByteArray))else(if(decide (a0=(7:Int)))=true then(some (⟨#[116,110]⟩:ByteArray))else(if(decide (a0=(8:Int)))=true then(some (⟨#[116,112,108,105,109]⟩:ByteArray))else(if(decide (a0=(9:Int)))=true then(some (⟨#[116,101,112,108,105,109,120]⟩:ByteArray))else(if(decide (a0=(10:Int)))=true then(some (⟨#[116,107,118,102]⟩:ByteArray))else(if(decide (a0=(11:Int)))=true then(some (⟨#[116]⟩:ByteArray))else(if(decide (a0=(12:Int)))=true then(some (⟨#[97]⟩:ByteArray))else(some (⟨#[]⟩:ByteArray))))))))))):Option ByteArray).bind fun b=>((((iter (Qo8 a1 b) (0:Int)).bind (Sum.elim (fun _=>(some (inl ()))) (fun _=>(((some true)).bind fun r=>some (inr r))))):Option (Unit⊕Bool)).bind (Sum.elim (fun _=>(some false)) some)))
def Qs8 (a0:Int) (a1:Int):Bool→Value→IM→HL→Prop:=
 fun(a:Bool) (v:Value) (c:IM) (b:HL)=>(.bool a)=v∧b=[]
theorem QbU (a0:Int) (a1:Int) (M:IM) (y:Bool) (h:QcM a0 a1=some y):
 Tri prog 103 #[(Iv a0),(Yv a1)] M [] (Qs8 a0 a1 y):=by
 unfold QcM at h
 refine Te func103 Z Z ?_
 intro F ρ x
 refine Sr (qa (Bv false) (Ns (qa (Sv ⟨#[]⟩) (Nt ?_))))
 obtain ⟨e,z,h⟩:=bnd h
 refine Jf (fun(e:ByteArray) l t u=>M.le t∧F=u∧l 1=(Yv a1)∧l 5=(Sv e)) e ?_ ?_
 have h:=z
 refine Sr (qM (Iv a0) (x 0) (Nt (Bk (Sr (qu (Bv (decide (a0=2))) (eql Z Z) (qa (Bv (decide (a0=2))) (Nt (Ch h Z (fun A h=> ?_) (fun A h=> ?_)))))))))
 refine Cg (qa (Sv ⟨#[98,101,114]⟩) (Wz (Bn ?_)))
 obtain rfl:=oi h
 exact Tj ⟨lr,Z,(x 1),Z⟩
 obtain ⟨v,B,h⟩:=bnd h
 refine Jf (fun(v:Bool) l t u=>M.le t∧F=u∧l 1=(Yv a1)∧l 5=(Sv ⟨#[]⟩)∧l 7=(Iv a0)∧l 10=(Bv v)) v ?_ ?_
 have h:=B
 refine Sr (qu (Bv (decide (a0=3))) (eql Z Z) (qa (Bv (decide (a0=3))) (Nt (Ch h Z (fun C h=> ?_) (fun C h=> ?_)))))
 refine Ck ?_
 obtain rfl:=oi h
 exact Tj ⟨lr,Z,(x 1),Z,Z,Z⟩
 refine Sr (qu (Bv (decide (a0=4))) (eql Z Z) (qa (Bv (decide (a0=4))) (Nt (Ch h Z (fun D h=> ?_) (fun D h=> ?_)))))
 refine Ck ?_
 obtain rfl:=oi h
 exact Tj ⟨lr,Z,(x 1),Z,Z,Z⟩
 refine Sr (qu (Bv (decide (a0=5))) (eql Z Z) (qa (Bv (decide (a0=5))) (Nt (Ch h Z (fun E h=> ?_) (fun E h=> ?_)))))
 refine Ck ?_
 obtain rfl:=oi h
 exact Tj ⟨lr,Z,(x 1),Z,Z,Z⟩
 refine Cg (qu (Bv (decide (a0=6))) (eql Z Z) (qa (Bv (decide (a0=6))) (Wz ?_)))
 obtain rfl:=oi h
 exact Tj ⟨lr,Z,(x 1),Z,Z,Z⟩
 rintro W X Y ⟨b,rfl,a,o,c,m⟩
 refine Ch h m (fun G h=> ?_) (fun G h=> ?_)
 refine Cg (qa (Sv ⟨#[98,101]⟩) (Wz (Bn ?_)))
 obtain rfl:=oi h
 exact Tj ⟨b,Z,a,Z⟩
 refine Sr (qu (Bv (decide (a0=7))) (eql c Z) (qa (Bv (decide (a0=7))) (Nt (Ch h Z (fun I h=> ?_) (fun I h=> ?_)))))
 refine Cg (qa (Sv ⟨#[116,110]⟩) (Wz (Bn ?_)))
 obtain rfl:=oi h
 exact Tj ⟨b,Z,a,Z⟩
 refine Sr (qu (Bv (decide (a0=8))) (eql c Z) (qa (Bv (decide (a0=8))) (Nt (Ch h Z (fun J h=> ?_) (fun J h=> ?_)))))
 refine Cg (qa (Sv ⟨#[116,112,108,105,109]⟩) (Wz (Bn ?_)))
 obtain rfl:=oi h
 exact Tj ⟨b,Z,a,Z⟩
 refine Sr (qu (Bv (decide (a0=9))) (eql c Z) (qa (Bv (decide (a0=9))) (Nt (Ch h Z (fun K h=> ?_) (fun K h=> ?_)))))
 refine Cg (qa (Sv ⟨#[116,101,112,108,105,109,120]⟩) (Wz (Bn ?_)))
 obtain rfl:=oi h
 exact Tj ⟨b,Z,a,Z⟩
 refine Sr (qu (Bv (decide (a0=10))) (eql c Z) (qa (Bv (decide (a0=10))) (Nt (Ch h Z (fun L h=> ?_) (fun L h=> ?_)))))
 refine Cg (qa (Sv ⟨#[116,107,118,102]⟩) (Wz (Bn ?_)))
 obtain rfl:=oi h
 exact Tj ⟨b,Z,a,Z⟩
 refine Sr (qu (Bv (decide (a0=11))) (eql c Z) (qa (Bv (decide (a0=11))) (Nt (Ch h Z (fun N h=> ?_) (fun N h=> ?_)))))
 refine Cg (qa (Sv ⟨#[116]⟩) (Wz (Bn ?_)))
 obtain rfl:=oi h
 exact Tj ⟨b,Z,a,Z⟩
 refine Sr (qu (Bv (decide (a0=12))) (eql c Z) (qa (Bv (decide (a0=12))) (Nt (Ch h Z (fun O h=> ?_) (fun O h=> ?_)))))
 refine Cg (qa (Sv ⟨#[97]⟩) (Wz (Bn ?_)))
 obtain rfl:=oi h
 exact Tj ⟨b,Z,a,Z⟩
 refine Ck (Bn ?_)
 obtain rfl:=oi h
 exact Tj ⟨b,Z,a,o⟩
 rintro a2 P a3 ⟨n,rfl,p,q⟩
 obtain ⟨V,Q,h⟩:=bnd h
 refine WC.joinE (fun(_:Unit) l t u=>P.le t∧F=u) V ?_ ?_
 have R:=h
 have h:=Q
 refine Sr (qa (Iv 0) (Nt (Bk ?_)))
 obtain ⟨a4,S,r⟩:=bnd h
 clear h
 refine WC.loop S (fun(d:Int) l t u=>P.le t∧F=u∧l 1=(Yv a1)∧l 5=(Sv e)∧l 6=(Iv d)) ?_ ?_
 exact⟨lr,Z,p,q,Z⟩
 rintro d a5 a6 a7 a8 h ⟨i,rfl,k,f,g⟩
 unfold Qo8 at h
 refine Cs (Sr (qM (Iv d) g (qM (Sv e) f (qu (Iv (e.size:Int)) (lenStr underlying9 Z) (qu (Bv (decide (d<(e.size:Int)))) (lss Z Z) (Nt (Ch h Z (fun T h=> ?_) (fun T h=> ?_))))))))
 refine Ck (Tc (Cs (Bk (Sr (qM (Sv e) f (qM (Iv d) g ?_))))))
 obtain ⟨s,h⟩:=Qa1 h
 refine qu (Yv (btAt e d)) (indexStr underlying9 Z Z s.1 (Q5G s)) (qM (Yv a1) k (qu (Bv (decide ((btAt e d)=a1))) (eql Z Z) (Nt (Ch h Z (fun U h=> ?_) (fun U h=> ?_)))))
 refine Sr (qa (Bv true) (Nt (Cr (Br (Tr (WQ.leaveR (inr ()) (oi h).symm (fun j=> ?_)))))))
 subst j
 have h:=(QdZ r)
 refine Br (Tr ?_)
 have h:=KK.early h R
 exact Rf h [] Z (Rs Z Z) (n.trans i) ⟨Z,Z⟩
 exact Ck (Bn (Tc (Cg (qM (Iv d) g (qu (Iv (i64.wrap (d+1))) (add Z Z) (qa (Iv (i64.wrap (d+1))) (Wz (WQ.again (i64.wrap (d+1)) (oi h).symm ⟨i,Z,k,f,Z⟩))))))))
 refine WC.exit (WQ.thenE (WQ.leaveE (inl ()) (oi h).symm (fun j=> ?_)))
 subst j
 have h:=QeV r
 exact WQ.blockH (WQ.thenFE h ⟨i,Z⟩)
 rintro _ a9 b0 b1 rfl ⟨w,rfl⟩
 have h:=(Sum.elim_inl _ _ _).symm.trans h
 exact Sr (qa (Bv false) (Nt (Cr (Rf h [] Z (Rs Z Z) (n.trans w) ⟨Z,Z⟩))))
noncomputable def QfL (a0:Int) (a1:Bool) (a2:Int) (a3:Int):Option Bool:=
 (if a1=true then(((if(decide (a2≤a0))=true then(some (decide (a0≤a3)))else(some false)):Option Bool).bind fun a=>(some a))else(some (decide (a0=(0:Int)))))
def Qs9 (a0:Int) (a1:Bool) (a2:Int) (a3:Int):Bool→Value→IM→HL→Prop:=
 fun(a:Bool) (v:Value) (c:IM) (b:HL)=>(.bool a)=v∧b=[]
theorem QeD (a0:Int) (a1:Bool) (a2:Int) (a3:Int) (M:IM) (f:Bool) (h:QfL a0 a1 a2 a3=some f):
 Tri prog 127 #[(Iv a0),(Bv a1),(Iv a2),(Iv a3)] M [] (Qs9 a0 a1 a2 a3 f):=by
 unfold QfL at h
 refine Te func127 Z Z ?_
 intro F p e
 refine Sr (qa (Bv false) (Nt (Cs (Sr (qM (Bv a1) (e 1) (Nt (Ch h Z (fun g h=> ?_) (fun g h=> ?_))))))))
 obtain ⟨c,i,h⟩:=bnd h
 refine Jf (fun(c:Bool) j k l=>M.le k∧F=l∧j 8=(Bv c)) c ?_ ?_
 have h:=i
 refine Cg (qM (Iv a0) (e 0) (qM (Iv a2) (e 2) (qu (Bv (decide (a2≤a0))) (geq Z Z) (qm (Bv (decide (a2≤a0))) ?_))))
 rcases Bi h with⟨a,h⟩ |⟨a,h⟩
 refine On 13 Z Z a (qM (Iv a0) (e 0) (On 13 Z Z a (qM (Iv a3) (e 3) (qo 13 a (Bv (decide (a0≤a3))) (leq Z Z) (qu (Bv (decide (a0≤a3))) (Pt Z a Z) (qa (Bv (decide (a0≤a3))) (Wz ?_)))))))
 obtain rfl:=oi h
 exact Tj ⟨lr,Z,Z⟩
 iterate 3 refine Of 13 Z Z a Z ?_
 refine qu (Bv false) (Pf Z a Z) (qa (Bv false) (Wz ?_))
 obtain rfl:=oi h
 exact Tj ⟨lr,Z,Z⟩
 rintro m n o ⟨d,rfl,b⟩
 exact Cr (Tr (Rf h [] Z (Rs Z b) d ⟨Z,Z⟩))
 exact Ck (Tc (Sr (qM (Iv a0) (e 0) (qu (Bv (decide (a0=0))) (eql Z Z) (qa (Bv (decide (a0=0))) (Nt (Cr (Rf h [] Z (Rs Z Z) lr ⟨Z,Z⟩))))))))
noncomputable def QkV (a0:QaO):Option Qa7:=
 (((if(decide (a0.Kind=(10:Int)))=true then(some (0:Int))else(some (1:Int))):Option Int).bind fun c=>((QcM a0.Kind (98:Int)).bind fun d=>((QfL a0.Broker d (1:Int) (64:Int)).bind fun e=>(if(!e)=true then(some (⟨(⟨#[98,114,111,107,101,114]⟩:ByteArray),a0.Broker,(2:Int)⟩:Qa7))else((QcM a0.Kind (101:Int)).bind fun f=>((QfL a0.Epoch f (0:Int) (1073741824:Int)).bind fun g=>(if(!g)=true then(some (⟨(⟨#[101,112,111,99,104]⟩:ByteArray),a0.Epoch,(2:Int)⟩:Qa7))else((QcM a0.Kind (116:Int)).bind fun i=>((QfL a0.Topic i c (1073741824:Int)).bind fun j=>(if(!j)=true then(some (⟨(⟨#[116,111,112,105,99]⟩:ByteArray),a0.Topic,(2:Int)⟩:Qa7))else((QcM a0.Kind (112:Int)).bind fun k=>((QfL a0.Part k (0:Int) (255:Int)).bind fun l=>(if(!l)=true then(some (⟨(⟨#[112,97,114,116]⟩:ByteArray),a0.Part,(2:Int)⟩:Qa7))else((QcM a0.Kind (108:Int)).bind fun m=>((QfL a0.Leader m (0:Int) (64:Int)).bind fun n=>(if(!n)=true then(some (⟨(⟨#[108,101,97,100,101,114]⟩:ByteArray),a0.Leader,(2:Int)⟩:Qa7))else((((QcM a0.Kind (97:Int)).bind fun o=>((QfL a0.Client o (1:Int) (1073741824:Int)).bind fun p=>(if(!p)=true then(some true)else((QcM a0.Kind (97:Int)).bind fun q=>((QfL a0.Serial q (1:Int) (1073741824:Int)).bind fun r=>(if(!r)=true then(some true)else((QcM a0.Kind (97:Int)).bind fun a=>((QfL a0.Code a (0:Int) (21:Int)).bind fun b=>(some (!b)))))))))):Option Bool).bind fun s=>(if s=true then(some (⟨(⟨#[97,115,107,101,114]⟩:ByteArray),a0.Client,(2:Int)⟩:Qa7))else(some (⟨(⟨#[]⟩:ByteArray),(0:Int),(0:Int)⟩:Qa7))))))))))))))))))))
def QoN (a0:QaO) (a b c d:Value):Qa7→Value→IM→HL→Prop:=
 fun(e:Qa7) (v:Value) (g:IM) (f:HL)=>(.agg #[(.string e.Op),(.int .i64 e.At),(.int .i64 e.Code)])=v∧f=[]
theorem QqF (a0:QaO) (M:IM) (i j k l:Value) (d9:RS (Kd.int .i64) M i a0.Ids) (e0:RS (Kd.int .i64) M j a0.Isr) (e1:RS (Kd.int .i64) M k a0.Add) (e2:RS (Kd.int .i64) M l a0.Drop) (a1:Qa7) (h:QkV a0=some a1):
 Tri prog 102 #[(QjM a0 i j k l)] M [] (QoN a0 i j k l a1):=by
 unfold QkV at h
 refine Te func102 Z Z ?_
 intro F ρ f4
 refine Sr (We (box (cs:=(l102 a0 i j k l).toArray) (congrArg Value.cells (asE (QjM a0 i j k l) (f4 0)))) Z ?_)
 rintro _ _ _ - ⟨rfl,g,rfl,rfl⟩
 refine We (Al QoB Z) Z ?_
 rintro _ _ _ - ⟨rfl,x,rfl,rfl⟩
 refine Ns (qu (pt g 0) (Fa QvB Z Z) (qu (Iv a0.Kind) (Lb 1 pl3 Z Z Z) (qa (Iv a0.Kind) (Ns (qa (Iv 1073741824) (Ns (qa (Iv 1) (Nt ?_))))))))
 obtain ⟨r,a2,h⟩:=bnd h
 refine Jf (fun(r:Int) y M' H'=>M.le M'∧[(x, .cells #[(Sv ⟨#[]⟩),(Iv 0),(Iv 0)] 130 (0,0))]::[(g, .cells (l102 a0 i j k l).toArray 102 (0,0))]::F=H'∧y 1=(pt g 0)∧y 2=(pt x 0)∧y 3=(Iv a0.Kind)∧y 4=(Iv 1073741824)∧y 5=(Iv r)) r ?_ ?_
 have h:=a2
 refine Sr (qm (Iv a0.Kind) (qu (Bv (decide (a0.Kind=10))) (eql Z Z) (Nt (Ch h Z (fun a3 h=> ?_) (fun a3 h=> ?_)))))
 refine Cg (qa (Iv 0) (Wz ?_))
 obtain rfl:=oi h
 exact Tj ⟨lr,Z,Z,Z,Z,Z,Z⟩
 refine Ck ?_
 obtain rfl:=oi h
 exact Tj ⟨lr,Z,Z,Z,Z,Z,Z⟩
 rintro f5 f6 f7 ⟨E,rfl,a,d,e,f,p⟩
 refine Cs (Cs (WC.draw [0,1,0,4,15,31] (.pure 0 (.pure 1 (.pure 2 (.alt 3 (.alt 4 (.pure 5 .done) .none) .none)))) Qc3 (by kernel_rfl) (qt (pt g 1) Z (Fa Qp3 a Z) (qt (Iv a0.Broker) Z (Lb 1 pl3 Z Z Z) (qt (Iv a0.Kind) Z (Mv e) ?_)))))
 obtain ⟨a4,a5,h⟩:=bnd h
 refine Ta Z (Ca Qn4 (QbU a0.Kind (98:Int) _ a4 a5) (QaS Z Z)) Z ?_ ?_
 rintro _ f8 _ G ⟨_,⟨rfl,rfl⟩,rfl⟩
 have e5:=E.trans G
 refine⟨(Sk 1 Z (Ss Z (Lb 1 pl3 Z Z Z) Z (Ss Z (Fa Qp3 a Z) Z trivial))), ?_⟩
 refine WT.a0 ?_
 obtain ⟨a6,a7,h⟩:=bnd h
 refine Ta Z (Ca QxT (QeD a0.Broker a4 (1:Int) (64:Int) _ a6 a7) (QiO Z Z Z Z)) Z ?_ ?_
 rintro _ f9 _ I ⟨_,⟨rfl,rfl⟩,rfl⟩
 have a8:=e5.trans I
 refine⟨(Sl Z), ?_⟩
 refine WT.a0 (qt (Bv (!a6)) Z (PO.not Z) (Ti (Tc (Ch h Z (fun a9 h=> ?_) (fun a9 h=> ?_)))))
 refine Sr (qu (pt g 1) (Fa Qp3 a Z) (qu (Iv a0.Broker) (Lb 1 pl3 Z Z Z) (qu (.agg #[(Sv ⟨#[98,114,111,107,101,114]⟩),(Iv a0.Broker),(Iv 2)]) (Bl (cl:=[(Sv ⟨#[98,114,111,107,101,114]⟩),(Iv a0.Broker),(Iv 2)]) QoB QsO (Pc (Sv ⟨#[98,114,111,107,101,114]⟩) Z Z (Pc (Iv a0.Broker) Z Z (Pc (Iv 2) Z Z Pz))) Z) (We (Sg (v:=(.agg #[(Sv ⟨#[98,114,111,107,101,114]⟩),(Iv a0.Broker),(Iv 2)])) (vl:=[(Sv ⟨#[98,114,111,107,101,114]⟩),(Iv a0.Broker),(Iv 2)]) (arr':=[(Sv ⟨#[98,114,111,107,101,114]⟩),(Iv a0.Broker),(Iv 2)]) Z QiH d Z (onb Z) Z Z Z) Z ?_))))
 rintro _ _ _ - ⟨rfl,rfl⟩
 exact Nt (Cr (Tr (Qa (Dr (Rd h [] (fun _ hs=>hs.drop) (QbA Z (Rc (cs:=[(Sv ⟨#[98,114,111,107,101,114]⟩),(Iv a0.Broker),(Iv 2)]) 0 Qp2 QiH d Z Z)) a8 ⟨Z,Z⟩)))))
 refine Ck (Tc (Cs (Cs (WC.draw [0,1,0,4,0,31,63] (.pure 0 (.pure 1 (.pure 2 (.pure 4 (.alt 3 (.alt 5 (.pure 6 .done) .none) .none))))) Qc3 (by kernel_rfl) (qt (pt g 2) Z (Fa QlQ a Z) (qt (Iv a0.Epoch) Z (Lb 1 pl3 Z Z Z) (qt (Iv a0.Kind) Z (Mv e) (qt (Iv 1073741824) Z (Mv f) ?_))))))))
 obtain ⟨b0,b1,h⟩:=bnd h
 refine Ta Z (Ca Qn4 (QbU a0.Kind (101:Int) _ b0 b1) (QaS Z Z)) Z ?_ ?_
 rintro _ g0 _ J ⟨_,⟨rfl,rfl⟩,rfl⟩
 have e6:=a8.trans J
 refine⟨(Ss Z (Mv f) Z (Sk 1 Z (Ss Z (Lb 1 pl3 Z Z Z) Z (Ss Z (Fa QlQ a Z) Z trivial)))), ?_⟩
 refine WT.a0 ?_
 obtain ⟨b2,b3,h⟩:=bnd h
 refine Ta Z (Ca QxT (QeD a0.Epoch b0 (0:Int) (1073741824:Int) _ b2 b3) (QiO Z Z Z Z)) Z ?_ ?_
 rintro _ g1 _ K ⟨_,⟨rfl,rfl⟩,rfl⟩
 have b4:=e6.trans K
 refine⟨(Sl Z), ?_⟩
 refine WT.a0 (qt (Bv (!b2)) Z (PO.not Z) (Ti (Tc (Ch h Z (fun b5 h=> ?_) (fun b5 h=> ?_)))))
 refine Sr (qu (pt g 2) (Fa QlQ a Z) (qu (Iv a0.Epoch) (Lb 1 pl3 Z Z Z) (qu (.agg #[(Sv ⟨#[101,112,111,99,104]⟩),(Iv a0.Epoch),(Iv 2)]) (Bl (cl:=[(Sv ⟨#[101,112,111,99,104]⟩),(Iv a0.Epoch),(Iv 2)]) QoB QsO (Pc (Sv ⟨#[101,112,111,99,104]⟩) Z Z (Pc (Iv a0.Epoch) Z Z (Pc (Iv 2) Z Z Pz))) Z) (We (Sg (v:=(.agg #[(Sv ⟨#[101,112,111,99,104]⟩),(Iv a0.Epoch),(Iv 2)])) (vl:=[(Sv ⟨#[101,112,111,99,104]⟩),(Iv a0.Epoch),(Iv 2)]) (arr':=[(Sv ⟨#[101,112,111,99,104]⟩),(Iv a0.Epoch),(Iv 2)]) Z QiH d Z (onb Z) Z Z Z) Z ?_))))
 rintro _ _ _ - ⟨rfl,rfl⟩
 exact Nt (Cr (Tr (Qa (Dr (Rd h [] (fun _ hs=>hs.drop) (QbA Z (Rc (cs:=[(Sv ⟨#[101,112,111,99,104]⟩),(Iv a0.Epoch),(Iv 2)]) 0 Qp2 QiH d Z Z)) b4 ⟨Z,Z⟩)))))
 refine Ck (Tc (Cs (Cs (WC.draw [0,1,0,4,0,0,63,127] (.pure 0 (.pure 1 (.pure 2 (.pure 4 (.pure 5 (.alt 3 (.alt 6 (.pure 7 .done) .none) .none)))))) Qc3 (by kernel_rfl) (qt (pt g 3) Z (Fa QgY a Z) (qt (Iv a0.Topic) Z (Lb 1 pl3 Z Z Z) (qt (Iv a0.Kind) Z (Mv e) (qt (Iv r) Z (Mv p) (qt (Iv 1073741824) Z (Mv f) ?_)))))))))
 obtain ⟨b6,b7,h⟩:=bnd h
 refine Ta Z (Ca Qn4 (QbU a0.Kind (116:Int) _ b6 b7) (QaS Z Z)) Z ?_ ?_
 rintro _ g2 _ L ⟨_,⟨rfl,rfl⟩,rfl⟩
 have e7:=b4.trans L
 refine⟨(Ss Z (Mv f) Z (Ss Z (Mv p) Z (Sk 1 Z (Ss Z (Lb 1 pl3 Z Z Z) Z (Ss Z (Fa QgY a Z) Z trivial))))), ?_⟩
 refine WT.a0 ?_
 obtain ⟨b8,b9,h⟩:=bnd h
 refine Ta Z (Ca QxT (QeD a0.Topic b6 r (1073741824:Int) _ b8 b9) (QiO Z Z Z Z)) Z ?_ ?_
 rintro _ g3 _ N ⟨_,⟨rfl,rfl⟩,rfl⟩
 have c0:=e7.trans N
 refine⟨(Sl Z), ?_⟩
 refine WT.a0 (qt (Bv (!b8)) Z (PO.not Z) (Ti (Tc (Ch h Z (fun c1 h=> ?_) (fun c1 h=> ?_)))))
 refine Sr (qu (pt g 3) (Fa QgY a Z) (qu (Iv a0.Topic) (Lb 1 pl3 Z Z Z) (qu (.agg #[(Sv ⟨#[116,111,112,105,99]⟩),(Iv a0.Topic),(Iv 2)]) (Bl (cl:=[(Sv ⟨#[116,111,112,105,99]⟩),(Iv a0.Topic),(Iv 2)]) QoB QsO (Pc (Sv ⟨#[116,111,112,105,99]⟩) Z Z (Pc (Iv a0.Topic) Z Z (Pc (Iv 2) Z Z Pz))) Z) (We (Sg (v:=(.agg #[(Sv ⟨#[116,111,112,105,99]⟩),(Iv a0.Topic),(Iv 2)])) (vl:=[(Sv ⟨#[116,111,112,105,99]⟩),(Iv a0.Topic),(Iv 2)]) (arr':=[(Sv ⟨#[116,111,112,105,99]⟩),(Iv a0.Topic),(Iv 2)]) Z QiH d Z (onb Z) Z Z Z) Z ?_))))
 rintro _ _ _ - ⟨rfl,rfl⟩
 exact Nt (Cr (Tr (Qa (Dr (Rd h [] (fun _ hs=>hs.drop) (QbA Z (Rc (cs:=[(Sv ⟨#[116,111,112,105,99]⟩),(Iv a0.Topic),(Iv 2)]) 0 Qp2 QiH d Z Z)) c0 ⟨Z,Z⟩)))))
 refine Ck (Tc (Cs (Cs (WC.draw [0,1,0,4,15,31] (.pure 0 (.pure 1 (.pure 2 (.alt 3 (.alt 4 (.pure 5 .done) .none) .none)))) Qc3 (by kernel_rfl) (qt (pt g 4) Z (Fa Qn5 a Z) (qt (Iv a0.Part) Z (Lb 1 pl3 Z Z Z) (qt (Iv a0.Kind) Z (Mv e) ?_)))))))
 obtain ⟨c2,c3,h⟩:=bnd h
 refine Ta Z (Ca Qn4 (QbU a0.Kind (112:Int) _ c2 c3) (QaS Z Z)) Z ?_ ?_
 rintro _ g4 _ O ⟨_,⟨rfl,rfl⟩,rfl⟩
 have e8:=c0.trans O
 refine⟨(Sk 1 Z (Ss Z (Lb 1 pl3 Z Z Z) Z (Ss Z (Fa Qn5 a Z) Z trivial))), ?_⟩
 refine WT.a0 ?_
 obtain ⟨c4,c5,h⟩:=bnd h
 refine Ta Z (Ca QxT (QeD a0.Part c2 (0:Int) (255:Int) _ c4 c5) (QiO Z Z Z Z)) Z ?_ ?_
 rintro _ g5 _ P ⟨_,⟨rfl,rfl⟩,rfl⟩
 have c6:=e8.trans P
 refine⟨(Sl Z), ?_⟩
 refine WT.a0 (qt (Bv (!c4)) Z (PO.not Z) (Ti (Tc (Ch h Z (fun c7 h=> ?_) (fun c7 h=> ?_)))))
 refine Sr (qu (pt g 4) (Fa Qn5 a Z) (qu (Iv a0.Part) (Lb 1 pl3 Z Z Z) (qu (.agg #[(Sv ⟨#[112,97,114,116]⟩),(Iv a0.Part),(Iv 2)]) (Bl (cl:=[(Sv ⟨#[112,97,114,116]⟩),(Iv a0.Part),(Iv 2)]) QoB QsO (Pc (Sv ⟨#[112,97,114,116]⟩) Z Z (Pc (Iv a0.Part) Z Z (Pc (Iv 2) Z Z Pz))) Z) (We (Sg (v:=(.agg #[(Sv ⟨#[112,97,114,116]⟩),(Iv a0.Part),(Iv 2)])) (vl:=[(Sv ⟨#[112,97,114,116]⟩),(Iv a0.Part),(Iv 2)]) (arr':=[(Sv ⟨#[112,97,114,116]⟩),(Iv a0.Part),(Iv 2)]) Z QiH d Z (onb Z) Z Z Z) Z ?_))))
 rintro _ _ _ - ⟨rfl,rfl⟩
 exact Nt (Cr (Tr (Qa (Dr (Rd h [] (fun _ hs=>hs.drop) (QbA Z (Rc (cs:=[(Sv ⟨#[112,97,114,116]⟩),(Iv a0.Part),(Iv 2)]) 0 Qp2 QiH d Z Z)) c6 ⟨Z,Z⟩)))))
 refine Ck (Tc (Cs (Cs (WC.draw [0,1,0,4,15,31] (.pure 0 (.pure 1 (.pure 2 (.alt 3 (.alt 4 (.pure 5 .done) .none) .none)))) Qc3 (by kernel_rfl) (qt (pt g 5) Z (Fa QvC a Z) (qt (Iv a0.Leader) Z (Lb 1 pl3 Z Z Z) (qt (Iv a0.Kind) Z (Mv e) ?_)))))))
 obtain ⟨c8,c9,h⟩:=bnd h
 refine Ta Z (Ca Qn4 (QbU a0.Kind (108:Int) _ c8 c9) (QaS Z Z)) Z ?_ ?_
 rintro _ g6 _ Q ⟨_,⟨rfl,rfl⟩,rfl⟩
 have e9:=c6.trans Q
 refine⟨(Sk 1 Z (Ss Z (Lb 1 pl3 Z Z Z) Z (Ss Z (Fa QvC a Z) Z trivial))), ?_⟩
 refine WT.a0 ?_
 obtain ⟨d0,d1,h⟩:=bnd h
 refine Ta Z (Ca QxT (QeD a0.Leader c8 (0:Int) (64:Int) _ d0 d1) (QiO Z Z Z Z)) Z ?_ ?_
 rintro _ f0 _ R ⟨_,⟨rfl,rfl⟩,rfl⟩
 have S:=e9.trans R
 refine⟨(Sl Z), ?_⟩
 refine WT.a0 (qt (Bv (!d0)) Z (PO.not Z) (Ti (Tc (Ch h Z (fun d2 h=> ?_) (fun d2 h=> ?_)))))
 refine Sr (qu (pt g 5) (Fa QvC a Z) (qu (Iv a0.Leader) (Lb 1 pl3 Z Z Z) (qu (.agg #[(Sv ⟨#[108,101,97,100,101,114]⟩),(Iv a0.Leader),(Iv 2)]) (Bl (cl:=[(Sv ⟨#[108,101,97,100,101,114]⟩),(Iv a0.Leader),(Iv 2)]) QoB QsO (Pc (Sv ⟨#[108,101,97,100,101,114]⟩) Z Z (Pc (Iv a0.Leader) Z Z (Pc (Iv 2) Z Z Pz))) Z) (We (Sg (v:=(.agg #[(Sv ⟨#[108,101,97,100,101,114]⟩),(Iv a0.Leader),(Iv 2)])) (vl:=[(Sv ⟨#[108,101,97,100,101,114]⟩),(Iv a0.Leader),(Iv 2)]) (arr':=[(Sv ⟨#[108,101,97,100,101,114]⟩),(Iv a0.Leader),(Iv 2)]) Z QiH d Z (onb Z) Z Z Z) Z ?_))))
 rintro _ _ _ - ⟨rfl,rfl⟩
 exact Nt (Cr (Tr (Qa (Dr (Rd h [] (fun _ hs=>hs.drop) (QbA Z (Rc (cs:=[(Sv ⟨#[108,101,97,100,101,114]⟩),(Iv a0.Leader),(Iv 2)]) 0 Qp2 QiH d Z Z)) S ⟨Z,Z⟩)))))
 refine Ck (Tc (Cs ?_))
 obtain ⟨T,d3,h⟩:=bnd h
 refine Jf (fun(T:Bool) y M' H'=>f0.le M'∧[(x, .cells #[(Sv ⟨#[]⟩),(Iv 0),(Iv 0)] 130 (0,0))]::[(g, .cells (l102 a0 i j k l).toArray 102 (0,0))]::F=H'∧y 1=(pt g 0)∧y 2=(pt x 0)∧y 81=(Bv T)) T ?_ ?_
 have h:=d3
 refine WC.draw [0,1,0,4,0,31,63,127,255,511,255,1279,255,8191,16383,32767,65535,131071,262143,131071,655359,2097151,4194303,8388607] (.pure 0 (.pure 1 (.pure 2 (.pure 4 (.alt 3 (.alt 5 (.pure 6 (.pure 7 (.pure 8 (.pure 9 (.pure 10 (.pure 12 (.alt 11 (.alt 13 (.pure 14 (.pure 15 (.pure 16 (.pure 17 (.pure 18 (.pure 19 (.alt 20 (.alt 21 (.pure 22 (.pure 23 .done)) .none) .none))))))) .none) .none))))))) .none) .none))))) Qc3 (by kernel_rfl) (qt (pt g 6) Z (Fa QvD a Z) (qt (Iv a0.Client) Z (Lb 1 pl3 Z Z Z) (qt (Iv a0.Kind) Z (Mv e) (qt (Iv 1073741824) Z (Mv f) ?_))))
 obtain ⟨d4,d5,h⟩:=bnd h
 refine Ta Z (Ca Qn4 (QbU a0.Kind (97:Int) _ d4 d5) (QaS Z Z)) Z ?_ ?_
 rintro _ g7 _ n ⟨_,⟨rfl,rfl⟩,rfl⟩
 refine⟨(Ss Z (Mv f) Z (Sk 1 Z (Ss Z (Lb 1 pl3 Z Z Z) Z (Ss Z (Fa QvD a Z) Z trivial)))), ?_⟩
 refine WT.a0 ?_
 obtain ⟨U,d6,h⟩:=bnd h
 refine Ta Z (Ca QxT (QeD a0.Client d4 (1:Int) (1073741824:Int) _ U d6) (QiO Z Z Z Z)) Z ?_ ?_
 rintro _ g8 _ o ⟨_,⟨rfl,rfl⟩,rfl⟩
 refine⟨(Sl Z), ?_⟩
 refine WT.a0 (qt (Bv (!U)) Z (PO.not Z) (qt (Bv (!U)) Z (Mv Z) ?_))
 rcases Bi h with⟨c,h⟩ |⟨c,h⟩
 refine Tf 65 Z Z Z c Z (Tf 65 Z Z Z c Z (Tf 65 Z Z Z c Z (Tf 65 Z Z Z c Z (Tg 65 Z Z Z c Z ⟨(St (Sf 65 Z Z Z c Z) (Sk 1 Z (St (Sf 65 Z Z Z c Z) (St (Sf 65 Z Z Z c Z) (Sl Z))))), ?_⟩ ?_))))
 refine Tg 65 Z Z Z c Z ⟨(Sl Z), ?_⟩ ?_
 refine Tf 65 Z Z Z c Z (qt (Bv true) Z (Pt Z c Z) (qt (Bv true) Z (Mv Z) (Tf 74 Z Z Z Z Z (Tf 74 Z Z Z Z Z (Tf 74 Z Z Z Z Z (Tg 74 Z Z Z Z Z ⟨(Sk 1 Z (St (Sf 74 Z Z Z Z Z) (St (Sf 74 Z Z Z Z Z) (Sl Z)))), ?_⟩ ?_))))))
 refine Tg 74 Z Z Z Z Z ⟨(Sl Z), ?_⟩ ?_
 refine Tf 74 Z Z Z Z Z (qt (Bv true) Z (Pt Z Z Z) (Ti ?_))
 obtain rfl:=oi h
 exact Tj ⟨(n.trans o),Z,a,d,Z⟩
 exact Tz
 exact Tz
 exact Tz
 exact Tz
 refine Tn (pt g 7) 65 Z Z Z c (Fa Qw0 a Z) Z (Tn (Iv a0.Serial) 65 Z Z Z c (Lb 1 pl3 Z Z Z) Z (Tn (Iv a0.Kind) 65 Z Z Z c (Mv e) Z (Tn (Iv 1073741824) 65 Z Z Z c (Mv f) Z ?_)))
 obtain ⟨d7,d8,h⟩:=bnd h
 refine WT.altOn 65 Z Z Z c (Ca Qn4 (QbU a0.Kind (97:Int) _ d7 d8) (QaS Z Z)) Z ?_ ?_
 rintro _ g9 _ s ⟨_,⟨rfl,rfl⟩,rfl⟩
 refine⟨(St (StabA.on 65 Z Z Z c (Mv f) Z) (Sk 1 Z (St (StabA.on 65 Z Z Z c (Lb 1 pl3 Z Z Z) Z) (St (StabA.on 65 Z Z Z c (Fa Qw0 a Z) Z) (Sl Z))))), ?_⟩
 refine WT.a0 ?_
 obtain ⟨z,V,h⟩:=bnd h
 refine WT.altOn 65 Z Z Z c (Ca QxT (QeD a0.Serial d7 (1:Int) (1073741824:Int) _ z V) (QiO Z Z Z Z)) Z ?_ ?_
 rintro _ f1 _ q ⟨_,⟨rfl,rfl⟩,rfl⟩
 refine⟨(Sl Z), ?_⟩
 refine WT.a0 (Tn (Bv (!z)) 65 Z Z Z c (PO.not Z) Z (qt (Bv (!z)) Z (Pf Z c Z) (qt (Bv (!z)) Z (Mv Z) ?_)))
 rcases Bi h with⟨b,h⟩ |⟨b,h⟩
 refine Tf 74 Z Z Z b Z (Tf 74 Z Z Z b Z (Tf 74 Z Z Z b Z (Tg 74 Z Z Z b Z ⟨(Sk 1 Z (St (Sf 74 Z Z Z b Z) (St (Sf 74 Z Z Z b Z) (Sl Z)))), ?_⟩ ?_)))
 refine Tg 74 Z Z Z b Z ⟨(Sl Z), ?_⟩ ?_
 refine Tf 74 Z Z Z b Z (qt (Bv true) Z (Pt Z b Z) (Ti ?_))
 obtain rfl:=oi h
 exact Tj ⟨(((n.trans o).trans s).trans q),Z,a,d,Z⟩
 exact Tz
 exact Tz
 refine Tn (pt g 8) 74 Z Z Z b (Fa Qy1 a Z) Z (Tn (Iv a0.Code) 74 Z Z Z b (Lb 1 pl3 Z Z Z) Z (Tn (Iv a0.Kind) 74 Z Z Z b (Mv e) Z ?_))
 obtain ⟨D,W,h⟩:=bnd h
 refine WT.altOn 74 Z Z Z b (Ca Qn4 (QbU a0.Kind (97:Int) _ D W) (QaS Z Z)) Z ?_ ?_
 rintro _ f2 _ A ⟨_,⟨rfl,rfl⟩,rfl⟩
 refine⟨(Sk 1 Z (St (StabA.on 74 Z Z Z b (Lb 1 pl3 Z Z Z) Z) (St (StabA.on 74 Z Z Z b (Fa Qy1 a Z) Z) (Sl Z)))), ?_⟩
 refine WT.a0 ?_
 obtain ⟨t,X,h⟩:=bnd h
 refine WT.altOn 74 Z Z Z b (Ca QxT (QeD a0.Code D (0:Int) (21:Int) _ t X) (QiO Z Z Z Z)) Z ?_ ?_
 rintro _ f3 _ B ⟨_,⟨rfl,rfl⟩,rfl⟩
 refine⟨(Sl Z), ?_⟩
 refine WT.a0 (Tn (Bv (!t)) 74 Z Z Z b (PO.not Z) Z (qt (Bv (!t)) Z (Pf Z b Z) (Ti ?_)))
 obtain rfl:=oi h
 exact Tj ⟨(((((n.trans o).trans s).trans q).trans A).trans B),Z,a,d,Z⟩
 exact Tz
 exact Tz
 exact Tz
 exact Tz
 exact Tz
 exact Tz
 rintro h0 h1 h2 ⟨u,rfl,C,m,w⟩
 refine Ch h w (fun Y h=> ?_) (fun Y h=> ?_)
 refine Sr (qu (pt g 6) (Fa QvD C Z) (qu (Iv a0.Client) (Lb 1 pl3 Z Z Z) (qu (.agg #[(Sv ⟨#[97,115,107,101,114]⟩),(Iv a0.Client),(Iv 2)]) (Bl (cl:=[(Sv ⟨#[97,115,107,101,114]⟩),(Iv a0.Client),(Iv 2)]) QoB QsO (Pc (Sv ⟨#[97,115,107,101,114]⟩) Z Z (Pc (Iv a0.Client) Z Z (Pc (Iv 2) Z Z Pz))) Z) (We (Sg (v:=(.agg #[(Sv ⟨#[97,115,107,101,114]⟩),(Iv a0.Client),(Iv 2)])) (vl:=[(Sv ⟨#[97,115,107,101,114]⟩),(Iv a0.Client),(Iv 2)]) (arr':=[(Sv ⟨#[97,115,107,101,114]⟩),(Iv a0.Client),(Iv 2)]) Z QiH m Z (onb Z) Z Z Z) Z ?_))))
 rintro _ _ _ - ⟨rfl,rfl⟩
 exact Nt (Cr (Tr (Qa (Dr (Rd h [] (fun _ hs=>hs.drop) (QbA Z (Rc (cs:=[(Sv ⟨#[97,115,107,101,114]⟩),(Iv a0.Client),(Iv 2)]) 0 Qp2 QiH m Z Z)) (S.trans u) ⟨Z,Z⟩)))))
 refine Ck (Tc (Sr (qu (.agg #[(Sv ⟨#[]⟩),(Iv 0),(Iv 0)]) (Bl (cl:=[(Sv ⟨#[]⟩),(Iv 0),(Iv 0)]) QoB QsO Pz Z) (We (Sg (v:=(.agg #[(Sv ⟨#[]⟩),(Iv 0),(Iv 0)])) (vl:=[(Sv ⟨#[]⟩),(Iv 0),(Iv 0)]) (arr':=[(Sv ⟨#[]⟩),(Iv 0),(Iv 0)]) Z QiH m Z (onb Z) Z Z Z) Z ?_))))
 rintro _ _ _ - ⟨rfl,rfl⟩
 exact Nt (Cr (Qa (Dr (Rd h [] (fun _ hs=>hs.drop) (QbA Z (Rc (cs:=[(Sv ⟨#[]⟩),(Iv 0),(Iv 0)]) 0 Qp2 QiH m Z Z)) (S.trans u) ⟨Z,Z⟩))))
 exact Tz
 exact Tz
 exact Tz
 exact Tz
 exact Tz
 exact Tz
 exact Tz
 exact Tz
 exact Tz
 exact Tz
noncomputable def QfU (a0:ByteArray) (c:Int):Option (Int⊕(Unit⊕Unit)):=
 match c with
 |a=>
 (if(decide (a<(a0.size:Int)))=true then(grd (0≤a∧a<a0.size) (((if(decide ((97:Int)≤(btAt a0 a)))=true then(if(decide ((btAt a0 a)≤(122:Int)))=true then(some true)else(if(decide ((48:Int)≤(btAt a0 a)))=true then(if(decide ((btAt a0 a)≤(57:Int)))=true then(some true)else(if(decide ((btAt a0 a)=(46:Int)))=true then(some true)else(some (decide ((btAt a0 a)=(45:Int))))))else(if(decide ((btAt a0 a)=(46:Int)))=true then(some true)else(some (decide ((btAt a0 a)=(45:Int)))))))else(if(decide ((48:Int)≤(btAt a0 a)))=true then(if(decide ((btAt a0 a)≤(57:Int)))=true then(some true)else(if(decide ((btAt a0 a)=(46:Int)))=true then(some true)else(some (decide ((btAt a0 a)=(45:Int))))))else(if(decide ((btAt a0 a)=(46:Int)))=true then(some true)else(some (decide ((btAt a0 a)=(45:Int))))))):Option Bool).bind fun b=>(if(!b)=true then(some (inr (inr ())))else(some (inl (i64.wrap (a+(1:Int))))))))else(some (inr (inl ()))))
noncomputable def Qe5 (a0:ByteArray):Option Bool:=
 (((if(decide ((a0.size:Int)<(1:Int)))=true then(some true)else(if(decide ((40:Int)<(a0.size:Int)))=true then(some true)else(if(decide (a0=(⟨#[46]⟩:ByteArray)))=true then(some true)else(some (decide (a0=(⟨#[46,46]⟩:ByteArray))))))):Option Bool).bind fun a=>(if a=true then(some false)else((((iter (QfU a0) (0:Int)).bind (Sum.elim (fun _=>(some (inl ()))) (fun _=>(((some false)).bind fun r=>some (inr r))))):Option (Unit⊕Bool)).bind (Sum.elim (fun _=>(some true)) some))))
def QrT (a0:ByteArray):Bool→Value→IM→HL→Prop:=
 fun(a:Bool) (v:Value) (c:IM) (b:HL)=>(.bool a)=v∧b=[]
theorem Qg4 (a0:ByteArray) (M:IM) (L:Bool) (h:Qe5 a0=some L):
 Tri prog 93 #[(Sv a0)] M [] (QrT a0 L):=by
 unfold Qe5 at h
 refine Te func93 Z Z ?_
 intro F ρ C
 refine Sr (qa (Bv false) (Nt (Cs ?_)))
 obtain ⟨G,N,h⟩:=bnd h
 refine Jf (fun(G:Bool) x I J=>M.le I∧F=J∧x 0=(Sv a0)∧x 21=(Bv G)) G ?_ ?_
 have h:=N
 refine Cg (qM (Sv a0) (C 0) (qu (Iv (a0.size:Int)) (lenStr underlying9 Z) (qu (Bv (decide ((a0.size:Int)<(1:Int)))) (lss Z Z) (qm (Bv (decide ((a0.size:Int)<(1:Int)))) ?_))))
 rcases Bi h with⟨e,h⟩ |⟨e,h⟩
 iterate 3 refine Of 9 Z Z e Z ?_
 refine qu (Bv true) (Pt Z e Z) (qm (Bv true) ?_)
 iterate 2 refine Of 14 Z Z Z Z ?_
 refine qu (Bv true) (Pt Z Z Z) (qm (Bv true) ?_)
 iterate 2 refine Of 18 Z Z Z Z ?_
 refine qu (Bv true) (Pt Z Z Z) (Wz ?_)
 obtain rfl:=oi h
 exact Tj ⟨lr,Z,(C 0),Z⟩
 refine On 9 Z Z e (qM (Sv a0) (C 0) (qo 9 e (Iv (a0.size:Int)) (lenStr underlying9 Z) (qo 9 e (Bv (decide ((40:Int)<(a0.size:Int)))) (gtr Z Z) (qu (Bv (decide ((40:Int)<(a0.size:Int)))) (Pf Z e Z) (qm (Bv (decide ((40:Int)<(a0.size:Int)))) ?_)))))
 rcases Bi h with⟨f,h⟩ |⟨f,h⟩
 iterate 2 refine Of 14 Z Z f Z ?_
 refine qu (Bv true) (Pt Z f Z) (qm (Bv true) ?_)
 iterate 2 refine Of 18 Z Z Z Z ?_
 refine qu (Bv true) (Pt Z Z Z) (Wz ?_)
 obtain rfl:=oi h
 exact Tj ⟨lr,Z,(C 0),Z⟩
 refine On 14 Z Z f (qM (Sv a0) (C 0) (qo 14 f (Bv (decide (a0=(⟨#[46]⟩:ByteArray)))) (seql Z Z) (qu (Bv (decide (a0=(⟨#[46]⟩:ByteArray)))) (Pf Z f Z) (qm (Bv (decide (a0=(⟨#[46]⟩:ByteArray)))) ?_))))
 rcases Bi h with⟨g,h⟩ |⟨g,h⟩
 iterate 2 refine Of 18 Z Z g Z ?_
 refine qu (Bv true) (Pt Z g Z) (Wz ?_)
 obtain rfl:=oi h
 exact Tj ⟨lr,Z,(C 0),Z⟩
 refine On 18 Z Z g (qM (Sv a0) (C 0) (qo 18 g (Bv (decide (a0=(⟨#[46,46]⟩:ByteArray)))) (seql Z Z) (qu (Bv (decide (a0=(⟨#[46,46]⟩:ByteArray)))) (Pf Z g Z) (Wz ?_))))
 obtain rfl:=oi h
 exact Tj ⟨lr,Z,(C 0),Z⟩
 rintro Y O a1 ⟨r,rfl,y,u⟩
 refine Ch h u (fun P h=> ?_) (fun P h=> ?_)
 exact Sr (qa (Bv false) (Nt (Cr (Tr (Rf h [] Z (Rs Z Z) r ⟨Z,Z⟩)))))
 refine Ck (Tc ?_)
 obtain ⟨W,Q,h⟩:=bnd h
 refine WC.joinE (fun(_:Unit) x I J=>O.le I∧F=J) W ?_ ?_
 have R:=h
 have h:=Q
 refine Sr (qa (Iv 0) (Nt (Bk ?_)))
 obtain ⟨a2,S,D⟩:=bnd h
 clear h
 refine WC.loop S (fun(a:Int) x I J=>O.le I∧F=J∧x 0=(Sv a0)∧x 3=(Iv a)) ?_ ?_
 exact⟨lr,Z,y,Z⟩
 rintro a a3 a4 X a5 h ⟨s,rfl,b,c⟩
 unfold QfU at h
 refine Cs (Sr (qM (Iv a) c (qM (Sv a0) b (qu (Iv (a0.size:Int)) (lenStr underlying9 Z) (qu (Bv (decide (a<(a0.size:Int)))) (lss Z Z) (Nt (Ch h Z (fun T h=> ?_) (fun T h=> ?_))))))))
 refine Ck (Tc (Cs (Bk (Sr (qM (Sv a0) b (qM (Iv a) c ?_))))))
 obtain ⟨E,h⟩:=Qa1 h
 refine qu (Yv (btAt a0 a)) (indexStr underlying9 Z Z E.1 (Q5G E)) (qa (Yv (btAt a0 a)) (Nt ?_))
 obtain ⟨v,U,h⟩:=bnd h
 refine Jf (fun(v:Bool) x I J=>X.le I∧F=J∧x 0=(Sv a0)∧x 3=(Iv a)∧x 5=(Bv v)) v ?_ ?_
 have h:=U
 refine Cg (qm (Yv (btAt a0 a)) (qu (Bv (decide ((97:Int)≤(btAt a0 a)))) (geq Z Z) (qm (Bv (decide ((97:Int)≤(btAt a0 a)))) ?_)))
 rcases Bi h with⟨i,h⟩ |⟨i,h⟩
 refine On 33 Z Z i (qm (Yv (btAt a0 a)) (qo 33 i (Bv (decide ((btAt a0 a)≤122))) (leq Z Z) (qu (Bv (decide ((btAt a0 a)≤122))) (Pt Z i Z) (qm (Bv (decide ((btAt a0 a)≤122))) ?_))))
 rcases Bi h with⟨d,h⟩ |⟨d,h⟩
 iterate 3 refine Of 37 Z Z d Z ?_
 refine WL.offU 40 Z Z Z (WL.offU 40 Z Z Z (Of 37 Z Z d Z (qu (Bv true) (Pt Z d Z) (qm (Bv true) ?_))))
 iterate 2 refine Of 45 Z Z Z Z ?_
 refine qu (Bv true) (Pt Z Z Z) (qm (Bv true) ?_)
 iterate 2 refine Of 49 Z Z Z Z ?_
 refine qu (Bv true) (Pt Z Z Z) (qa (Bv true) (Wz ?_))
 obtain rfl:=oi h
 exact Tj ⟨lr,Z,b,c,Z⟩
 refine On 37 Z Z d (qm (Yv (btAt a0 a)) (qo 37 d (Bv (decide ((48:Int)≤(btAt a0 a)))) (geq Z Z) (On 37 Z Z d (qm (Bv (decide ((48:Int)≤(btAt a0 a)))) ?_))))
 rcases Bi h with⟨j,h⟩ |⟨j,h⟩
 refine On 40 Z Z j (qm (Yv (btAt a0 a)) (qo 40 j (Bv (decide ((btAt a0 a)≤57))) (leq Z Z) (qo 37 d (Bv (decide ((btAt a0 a)≤57))) (Pt Z j Z) (qu (Bv (decide ((btAt a0 a)≤57))) (Pf Z d Z) (qm (Bv (decide ((btAt a0 a)≤57))) ?_)))))
 rcases Bi h with⟨k,h⟩ |⟨k,h⟩
 iterate 2 refine Of 45 Z Z k Z ?_
 refine qu (Bv true) (Pt Z k Z) (qm (Bv true) ?_)
 iterate 2 refine Of 49 Z Z Z Z ?_
 refine qu (Bv true) (Pt Z Z Z) (qa (Bv true) (Wz ?_))
 obtain rfl:=oi h
 exact Tj ⟨lr,Z,b,c,Z⟩
 refine On 45 Z Z k (qm (Yv (btAt a0 a)) (qo 45 k (Bv (decide ((btAt a0 a)=46))) (eql Z Z) (qu (Bv (decide ((btAt a0 a)=46))) (Pf Z k Z) (qm (Bv (decide ((btAt a0 a)=46))) ?_))))
 rcases Bi h with⟨l,h⟩ |⟨l,h⟩
 iterate 2 refine Of 49 Z Z l Z ?_
 refine qu (Bv true) (Pt Z l Z) (qa (Bv true) (Wz ?_))
 obtain rfl:=oi h
 exact Tj ⟨lr,Z,b,c,Z⟩
 refine On 49 Z Z l (qm (Yv (btAt a0 a)) (qo 49 l (Bv (decide ((btAt a0 a)=45))) (eql Z Z) (qu (Bv (decide ((btAt a0 a)=45))) (Pf Z l Z) (qa (Bv (decide ((btAt a0 a)=45))) (Wz ?_)))))
 obtain rfl:=oi h
 exact Tj ⟨lr,Z,b,c,Z⟩
 iterate 2 refine Of 40 Z Z j Z ?_
 refine qo 37 d (Bv false) (Pf Z j Z) (qu (Bv false) (Pf Z d Z) (qm (Bv false) (On 45 Z Z Z (qm (Yv (btAt a0 a)) (qo 45 Z (Bv (decide ((btAt a0 a)=46))) (eql Z Z) (qu (Bv (decide ((btAt a0 a)=46))) (Pf Z Z Z) (qm (Bv (decide ((btAt a0 a)=46))) ?_)))))))
 rcases Bi h with⟨m,h⟩ |⟨m,h⟩
 iterate 2 refine Of 49 Z Z m Z ?_
 refine qu (Bv true) (Pt Z m Z) (qa (Bv true) (Wz ?_))
 obtain rfl:=oi h
 exact Tj ⟨lr,Z,b,c,Z⟩
 refine On 49 Z Z m (qm (Yv (btAt a0 a)) (qo 49 m (Bv (decide ((btAt a0 a)=45))) (eql Z Z) (qu (Bv (decide ((btAt a0 a)=45))) (Pf Z m Z) (qa (Bv (decide ((btAt a0 a)=45))) (Wz ?_)))))
 obtain rfl:=oi h
 exact Tj ⟨lr,Z,b,c,Z⟩
 iterate 2 refine Of 33 Z Z i Z ?_
 refine qu (Bv false) (Pf Z i Z) (qm (Bv false) (On 37 Z Z Z (qm (Yv (btAt a0 a)) (qo 37 Z (Bv (decide ((48:Int)≤(btAt a0 a)))) (geq Z Z) (On 37 Z Z Z (qm (Bv (decide ((48:Int)≤(btAt a0 a)))) ?_))))))
 rcases Bi h with⟨n,h⟩ |⟨n,h⟩
 refine On 40 Z Z n (qm (Yv (btAt a0 a)) (qo 40 n (Bv (decide ((btAt a0 a)≤57))) (leq Z Z) (qo 37 Z (Bv (decide ((btAt a0 a)≤57))) (Pt Z n Z) (qu (Bv (decide ((btAt a0 a)≤57))) (Pf Z Z Z) (qm (Bv (decide ((btAt a0 a)≤57))) ?_)))))
 rcases Bi h with⟨o,h⟩ |⟨o,h⟩
 iterate 2 refine Of 45 Z Z o Z ?_
 refine qu (Bv true) (Pt Z o Z) (qm (Bv true) ?_)
 iterate 2 refine Of 49 Z Z Z Z ?_
 refine qu (Bv true) (Pt Z Z Z) (qa (Bv true) (Wz ?_))
 obtain rfl:=oi h
 exact Tj ⟨lr,Z,b,c,Z⟩
 refine On 45 Z Z o (qm (Yv (btAt a0 a)) (qo 45 o (Bv (decide ((btAt a0 a)=46))) (eql Z Z) (qu (Bv (decide ((btAt a0 a)=46))) (Pf Z o Z) (qm (Bv (decide ((btAt a0 a)=46))) ?_))))
 rcases Bi h with⟨p,h⟩ |⟨p,h⟩
 iterate 2 refine Of 49 Z Z p Z ?_
 refine qu (Bv true) (Pt Z p Z) (qa (Bv true) (Wz ?_))
 obtain rfl:=oi h
 exact Tj ⟨lr,Z,b,c,Z⟩
 refine On 49 Z Z p (qm (Yv (btAt a0 a)) (qo 49 p (Bv (decide ((btAt a0 a)=45))) (eql Z Z) (qu (Bv (decide ((btAt a0 a)=45))) (Pf Z p Z) (qa (Bv (decide ((btAt a0 a)=45))) (Wz ?_)))))
 obtain rfl:=oi h
 exact Tj ⟨lr,Z,b,c,Z⟩
 iterate 2 refine Of 40 Z Z n Z ?_
 refine qo 37 Z (Bv false) (Pf Z n Z) (qu (Bv false) (Pf Z Z Z) (qm (Bv false) (On 45 Z Z Z (qm (Yv (btAt a0 a)) (qo 45 Z (Bv (decide ((btAt a0 a)=46))) (eql Z Z) (qu (Bv (decide ((btAt a0 a)=46))) (Pf Z Z Z) (qm (Bv (decide ((btAt a0 a)=46))) ?_)))))))
 rcases Bi h with⟨q,h⟩ |⟨q,h⟩
 iterate 2 refine Of 49 Z Z q Z ?_
 refine qu (Bv true) (Pt Z q Z) (qa (Bv true) (Wz ?_))
 obtain rfl:=oi h
 exact Tj ⟨lr,Z,b,c,Z⟩
 refine On 49 Z Z q (qm (Yv (btAt a0 a)) (qo 49 q (Bv (decide ((btAt a0 a)=45))) (eql Z Z) (qu (Bv (decide ((btAt a0 a)=45))) (Pf Z q Z) (qa (Bv (decide ((btAt a0 a)=45))) (Wz ?_)))))
 obtain rfl:=oi h
 exact Tj ⟨lr,Z,b,c,Z⟩
 rintro a6 a7 a8 ⟨w,rfl,z,A,B⟩
 refine Sr (qM (Bv v) B (qu (Bv (!v)) (PO.not Z) (Nt (Ch h Z (fun V h=> ?_) (fun V h=> ?_)))))
 refine Sr (qa (Bv false) (Nt (Cr (Br (Tr (WQ.leaveR (inr ()) (oi h).symm (fun t=> ?_)))))))
 subst t
 have h:=(QdZ D)
 refine Br (Tr ?_)
 have h:=KK.early h R
 exact Rf h [] Z (Rs Z Z) ((r.trans s).trans w) ⟨Z,Z⟩
 exact Ck (Bn (Tc (Cg (qM (Iv a) A (qu (Iv (i64.wrap (a+1))) (add Z Z) (qa (Iv (i64.wrap (a+1))) (Wz (WQ.again (i64.wrap (a+1)) (oi h).symm ⟨(s.trans w),Z,z,Z⟩))))))))
 refine WC.exit (WQ.thenE (WQ.leaveE (inl ()) (oi h).symm (fun t=> ?_)))
 subst t
 have h:=QeV D
 exact WQ.blockH (WQ.thenFE h ⟨s,Z⟩)
 rintro _ a9 b0 b1 rfl ⟨K,rfl⟩
 have h:=(Sum.elim_inl _ _ _).symm.trans h
 exact Sr (qa (Bv true) (Nt (Cr (Rf h [] Z (Rs Z Z) (r.trans K) ⟨Z,Z⟩))))
noncomputable def QjV (a0:ByteArray) (a1:Bool):Option Bool:=
 (if a1=true then((Qe5 a0).bind fun a=>(some a))else(some (decide (a0=(⟨#[]⟩:ByteArray)))))
def QrU (a0:ByteArray) (a1:Bool):Bool→Value→IM→HL→Prop:=
 fun(a:Bool) (v:Value) (c:IM) (b:HL)=>(.bool a)=v∧b=[]
theorem QkW (a0:ByteArray) (a1:Bool) (M:IM) (b:Bool) (h:QjV a0 a1=some b):
 Tri prog 104 #[(Sv a0),(Bv a1)] M [] (QrU a0 a1 b):=by
 unfold QjV at h
 refine Te func104 Z Z ?_
 intro F i f
 refine Sr (qa (Bv false) (Nt (Cs (Sr (qM (Bv a1) (f 1) (Nt (Ch h Z (fun c h=> ?_) (fun c h=> ?_))))))))
 refine Sr (qM (Sv a0) (f 0) ?_)
 obtain ⟨d,e,h⟩:=bnd h
 refine We (Ca co93 (Qg4 a0 _ d e) (Qb2 Z)) Z ?_
 rintro _ g _ a ⟨_,⟨rfl,rfl⟩,rfl⟩
 exact WL.a0 (qa (Bv d) (Nt (Cr (Tr (Rf h [] Z (Rs Z Z) a ⟨Z,Z⟩)))))
 exact Ck (Tc (Sr (qM (Sv a0) (f 0) (qu (Bv (decide (a0=(⟨#[]⟩:ByteArray)))) (seql Z Z) (qa (Bv (decide (a0=(⟨#[]⟩:ByteArray)))) (Nt (Cr (Rf h [] Z (Rs Z Z) lr ⟨Z,Z⟩))))))))
noncomputable def Qc4 (a0:(List Int)) (b:Int) (c:Int):Option (Int⊕(Unit⊕Unit)):=
 match c with
 |a=>
 (if(decide (a<b))=true then(grd (0≤a∧a<a0.length) (grd (0≤b∧b<a0.length) (if(decide ((rd a0 a)=(rd a0 b)))=true then(some (inr (inr ())))else(some (inl (i64.wrap (a+(1:Int))))))))else(some (inr (inl ()))))
noncomputable def QdI (a0:(List Int)) (c:Int):Option (Int⊕(Unit⊕Unit)):=
 match c with
 |a=>
 (if(decide (a<(a0.length:Int)))=true then(((((grd (0≤a∧a<a0.length) (if(decide ((rd a0 a)<(1:Int)))=true then(some true)else(grd (0≤a∧a<a0.length) (some (decide ((64:Int)<(rd a0 a))))))):Option Bool).bind fun b=>(if b=true then(((some (inr (inr ())))).bind fun r=>some (inr r))else((iter (Qc4 a0 a) (0:Int)).bind (Sum.elim (fun _=>(some (inl ()))) (fun _=>(((some (inr (inr ())))).bind fun r=>some (inr r))))))):Option (Unit⊕(Int⊕(Unit⊕Unit)))).bind (Sum.elim (fun _=>(some (inl (i64.wrap (a+(1:Int)))))) some))else(some (inr (inl ()))))
noncomputable def Qc7 (a0:(List Int)):Option Bool:=
 (if(decide ((7:Int)<(a0.length:Int)))=true then(some false)else((((iter (QdI a0) (0:Int)).bind (Sum.elim (fun _=>(some (inl ()))) (fun _=>(((some false)).bind fun r=>some (inr r))))):Option (Unit⊕Bool)).bind (Sum.elim (fun _=>(some true)) some)))
def QoO (a0:(List Int)) (c:Value):Bool→Value→IM→HL→Prop:=
 fun(a:Bool) (v:Value) (d:IM) (b:HL)=>(.bool a)=v∧b=[]
theorem Qe6 (a0:(List Int)) (M:IM) (u:Value) (x:RS (Kd.int .i64) M u a0) (V:Bool) (h:Qc7 a0=some V):
 Tri prog 124 #[u] M [] (QoO a0 u V):=by
 unfold Qc7 at h
 refine Te func124 Z Z ?_
 intro F ρ b6
 refine Sr (qa (Bv false) (Nt (Cs (Sr (qM u (b6 0) (qu (Iv (a0.length:Int)) (lenS underlying51 Z x.len) (qu (Bv (decide ((7:Int)<(a0.length:Int)))) (gtr Z Z) (Nt (Ch h Z (fun W h=> ?_) (fun W h=> ?_))))))))))
 exact Sr (qa (Bv false) (Nt (Cr (Tr (Rf h [] Z (Rs Z Z) lr ⟨Z,Z⟩)))))
 refine Ck (Tc ?_)
 obtain ⟨a9,X,h⟩:=bnd h
 refine WC.joinE (fun(_:Unit) p y z=>M.le y∧F=z) a9 ?_ ?_
 have E:=h
 have h:=X
 refine Sr (qa (Iv 0) (Nt (Bk ?_)))
 obtain ⟨c1,Y,v⟩:=bnd h
 clear h
 refine WC.loop Y (fun(a:Int) p y z=>M.le y∧F=z∧p 0=u∧p 3=(Iv a)) ?_ ?_
 exact⟨lr,Z,(b6 0),Z⟩
 rintro a c2 c3 a1 c4 h ⟨g,rfl,b,c⟩
 unfold QdI at h
 refine Cs (Sr (qM (Iv a) c (qM u b ?_)))
 have x:=x.mono g
 refine qu (Iv (a0.length:Int)) (lenS underlying51 Z x.len) (qu (Bv (decide (a<(a0.length:Int)))) (lss Z Z) (Nt (Ch h Z (fun a2 h=> ?_) (fun a2 h=> ?_))))
 refine Ck (Tc ?_)
 obtain ⟨b0,a3,h⟩:=bnd h
 refine WC.joinE (fun(_:Unit) p y z=>a1.le y∧F=z∧p 0=u∧p 3=(Iv a)) b0 ?_ ?_
 have G:=h
 have h:=a3
 refine Bk (Cs ?_)
 obtain ⟨J,a4,h⟩:=bnd h
 refine Jf (fun(J:Bool) p y z=>a1.le y∧F=z∧p 0=u∧p 3=(Iv a)∧p 25=(Bv J)) J ?_ ?_
 have h:=a4
 refine Cg (qM u b (qM (Iv a) c ?_))
 obtain ⟨q,h⟩:=Qa1 h
 obtain ⟨b1,b7,K,L,hhas34⟩:=x.at q.1 q.2 (by decide)
 obtain rfl:=L
 refine qu (.pointer (some b1)) (indexAddr (n:=a0.length) underlying51 sz3 Z Z q.1 q.2 K) (qu (Iv (rd a0 a)) (loadM pl3 Z (IM.has0 hhas34)) (qu (Bv (decide ((rd a0 a)<1))) (lss Z Z) (qm (Bv (decide ((rd a0 a)<1))) ?_)))
 rcases Bi h with⟨d,h⟩ |⟨d,h⟩
 iterate 5 refine Of 19 Z Z d Z ?_
 refine qu (Bv true) (Pt Z d Z) (Wz ?_)
 obtain rfl:=oi h
 exact Tj ⟨lr,Z,b,c,Z⟩
 refine On 19 Z Z d (qM u b (On 19 Z Z d (qM (Iv a) c (On 19 Z Z d ?_))))
 obtain ⟨r,h⟩:=Qa1 h
 obtain ⟨b2,b8,N,O,hhas42⟩:=x.at r.1 r.2 (by decide)
 obtain rfl:=O
 refine qu (.pointer (some b2)) (indexAddr (n:=a0.length) underlying51 sz3 Z Z r.1 r.2 N) (qo 19 d (Iv (rd a0 a)) (loadM pl3 Z (IM.has0 hhas42)) (qo 19 d (Bv (decide ((64:Int)<(rd a0 a)))) (gtr Z Z) (qu (Bv (decide ((64:Int)<(rd a0 a)))) (Pf Z d Z) (Wz ?_))))
 obtain rfl:=oi h
 exact Tj ⟨lr,Z,b,c,Z⟩
 rintro c5 b3 c6 ⟨k,rfl,A,B,w⟩
 refine Ch h w (fun a5 h=> ?_) (fun a5 h=> ?_)
 refine Sr (qa (Bv false) (Nt (Cr (Tr (Br (Tr ?_))))))
 have h:=KK.early h G
 refine WQ.leaveR (inr ()) (oi h).symm (fun i=> ?_)
 subst i
 have h:=(QdZ v)
 refine Br (Tr ?_)
 have h:=KK.early h E
 exact Rf h [] Z (Rs Z Z) (g.trans k) ⟨Z,Z⟩
 refine Ck (Tc (Sr (qa (Iv 0) (Nt (Bk ?_)))))
 obtain ⟨c7,a6,I⟩:=bnd h
 clear h
 refine WC.loop a6 (fun(j:Int) p y z=>b3.le y∧F=z∧p 0=u∧p 3=(Iv a)∧p 4=(Iv j)) ?_ ?_
 exact⟨lr,Z,A,B,Z⟩
 rintro j c8 c9 d0 d1 h ⟨l,rfl,e,f,m⟩
 unfold Qc4 at h
 refine Cs (Sr (qM (Iv j) m (qM (Iv a) f (qu (Bv (decide (j<a))) (lss Z Z) (Nt (Ch h Z (fun a7 h=> ?_) (fun a7 h=> ?_)))))))
 refine Ck (Tc (Cs (Bk (Cs (WC.draw [0,0,3,7,0,0,48,112,255] (.pure 0 (.pure 1 (.pure 2 (.pure 3 (.pure 4 (.pure 5 (.pure 6 (.pure 7 (.pure 8 .done))))))))) Qc3 (by kernel_rfl) (qt u Z (Mv e) (qt (Iv j) Z (Mv m) ?_)))))))
 obtain ⟨s,h⟩:=Qa1 h
 have x:=x.mono (k.trans l)
 obtain ⟨b4,b9,P,Q,hhas53⟩:=x.at s.1 s.2 (by decide)
 obtain rfl:=Q
 refine qt (.pointer (some b4)) Z (indexAddr (n:=a0.length) underlying51 sz3 Z Z s.1 s.2 P) (qt (Iv (rd a0 j)) Z (loadM pl3 Z (IM.has0 hhas53)) (qt u Z (Mv e) (qt (Iv a) Z (Mv f) ?_)))
 obtain ⟨t,h⟩:=Qa1 h
 obtain ⟨b5,c0,R,S,hhas60⟩:=x.at t.1 t.2 (by decide)
 obtain rfl:=S
 refine qt (.pointer (some b5)) Z (indexAddr (n:=a0.length) underlying51 sz3 Z Z t.1 t.2 R) (qt (Iv (rd a0 a)) Z (loadM pl3 Z (IM.has0 hhas60)) (qt (Bv (decide ((rd a0 j)=(rd a0 a)))) Z (eql Z Z) (Ti (Tc (Ch h Z (fun a8 h=> ?_) (fun a8 h=> ?_))))))
 refine Sr (qa (Bv false) (Nt (Cr (Br (Tr (WQ.leaveR (inr ()) (oi h).symm (fun o=> ?_)))))))
 subst o
 have h:=(QdZ I)
 refine Br (Br (Tr ?_))
 have h:=KK.early h G
 refine WQ.leaveR (inr ()) (oi h).symm (fun i=> ?_)
 subst i
 have h:=(QdZ v)
 refine Br (Tr ?_)
 have h:=KK.early h E
 exact Rf h [] Z (Rs Z Z) ((g.trans k).trans l) ⟨Z,Z⟩
 exact Ck (Bn (Tc (Cg (qM (Iv j) m (qu (Iv (i64.wrap (j+1))) (add Z Z) (qa (Iv (i64.wrap (j+1))) (Wz (WQ.again (i64.wrap (j+1)) (oi h).symm ⟨l,Z,e,f,Z⟩))))))))
 refine WC.exit (WQ.thenE (WQ.leaveE (inl ()) (oi h).symm (fun o=> ?_)))
 subst o
 have h:=QeV I
 exact WQ.blockH (Bn (WQ.thenFE h ⟨(k.trans l),Z,e,f⟩))
 rintro _ d2 d3 d4 rfl ⟨T,rfl,C,D⟩
 have h:=(Sum.elim_inl _ _ _).symm.trans h
 exact Cg (qM (Iv a) D (qu (Iv (i64.wrap (a+1))) (add Z Z) (qa (Iv (i64.wrap (a+1))) (Wz (WQ.again (i64.wrap (a+1)) (oi h).symm ⟨(g.trans T),Z,C,Z⟩)))))
 refine WC.exit (WQ.thenE (WQ.leaveE (inl ()) (oi h).symm (fun i=> ?_)))
 subst i
 have h:=QeV v
 exact WQ.blockH (WQ.thenFE h ⟨g,Z⟩)
 rintro _ d5 d6 d7 rfl ⟨U,rfl⟩
 have h:=(Sum.elim_inl _ _ _).symm.trans h
 exact Sr (qa (Bv true) (Nt (Cr (Rf h [] Z (Rs Z Z) U ⟨Z,Z⟩))))
noncomputable def QjH (a0:(List Int)) (a1:Bool):Option Bool:=
 (if a1=true then((Qc7 a0).bind fun a=>(some a))else(some (decide ((a0.length:Int)=(0:Int)))))
def QtA (a0:(List Int)) (a1:Bool) (c:Value):Bool→Value→IM→HL→Prop:=
 fun(a:Bool) (v:Value) (d:IM) (b:HL)=>(.bool a)=v∧b=[]
theorem QjO (a0:(List Int)) (a1:Bool) (M:IM) (b:Value) (i:RS (Kd.int .i64) M b a0) (c:Bool) (h:QjH a0 a1=some c):
 Tri prog 105 #[b,(Bv a1)] M [] (QtA a0 a1 b c):=by
 unfold QjH at h
 refine Te func105 Z Z ?_
 intro F k g
 refine Sr (qa (Bv false) (Nt (Cs (Sr (qM (Bv a1) (g 1) (Nt (Ch h Z (fun d h=> ?_) (fun d h=> ?_))))))))
 refine Sr (qM b (g 0) ?_)
 obtain ⟨e,f,h⟩:=bnd h
 refine We (Ca Q1F (Qe6 a0 _ _ i e f) (Qb2 Z)) Z ?_
 rintro _ j _ a ⟨_,⟨rfl,rfl⟩,rfl⟩
 exact WL.a0 (qa (Bv e) (Nt (Cr (Tr (Rf h [] Z (Rs Z Z) a ⟨Z,Z⟩)))))
 exact Ck (Tc (Sr (qM b (g 0) (qu (Iv (a0.length:Int)) (lenS underlying51 Z i.len) (qu (Bv (decide ((a0.length:Int)=(0:Int)))) (eql Z Z) (qa (Bv (decide ((a0.length:Int)=(0:Int)))) (Nt (Cr (Rf h [] Z (Rs Z Z) lr ⟨Z,Z⟩)))))))))
noncomputable def Ql8 (a0:QaO):Option Qa7:=
 (((if(decide (a0.Kind<(1:Int)))=true then(some true)else(some (decide ((12:Int)<a0.Kind)))):Option Bool).bind fun i=>(if i=true then(some (⟨(⟨#[107,105,110,100]⟩:ByteArray),a0.Kind,(5:Int)⟩:Qa7))else((QkV a0).bind fun a=>(if(decide (a.Code≠(0:Int)))=true then(some a)else(((if a0.Flag=true then((QcM a0.Kind (102:Int)).bind fun j=>(some (!j)))else(some false)):Option Bool).bind fun k=>(if k=true then(some (⟨(⟨#[102,108,97,103]⟩:ByteArray),(1:Int),(1:Int)⟩:Qa7))else((((QcM a0.Kind (110:Int)).bind fun l=>((QjV a0.Name l).bind fun m=>(if(!m)=true then(some true)else((QcM a0.Kind (107:Int)).bind fun n=>((QjV a0.Key n).bind fun o=>(if(!o)=true then(some true)else((QcM a0.Kind (114:Int)).bind fun p=>((QjV a0.Rack p).bind fun q=>(some (!q)))))))))):Option Bool).bind fun r=>(if r=true then(some (⟨(⟨#[110,97,109,101]⟩:ByteArray),(a0.Name.size:Int),(1:Int)⟩:Qa7))else(((if(decide ((256:Int)<(a0.Value.size:Int)))=true then(some true)else(if(!decide (a0.Value=(⟨#[]⟩:ByteArray)))=true then(if a0.Flag=true then(some true)else((QcM a0.Kind (118:Int)).bind fun s=>(some (!s))))else(some false))):Option Bool).bind fun t=>(if t=true then(some (⟨(⟨#[118,97,108,117,101]⟩:ByteArray),(a0.Value.size:Int),(6:Int)⟩:Qa7))else((((QcM a0.Kind (105:Int)).bind fun u=>((QjH a0.Ids u).bind fun v=>(if(!v)=true then(some true)else((QcM a0.Kind (109:Int)).bind fun b=>((QjH a0.Isr b).bind fun c=>(if(!c)=true then(some true)else((QcM a0.Kind (120:Int)).bind fun d=>((QjH a0.Add d).bind fun e=>(if(!e)=true then(some true)else((QcM a0.Kind (120:Int)).bind fun f=>((QjH a0.Drop f).bind fun g=>(some (!g))))))))))))):Option Bool).bind fun w=>(if w=true then(some (⟨(⟨#[114,111,119]⟩:ByteArray),(a0.Ids.length:Int),(18:Int)⟩:Qa7))else(some (⟨(⟨#[]⟩:ByteArray),(0:Int),(0:Int)⟩:Qa7))))))))))))))
def QqG (a0:QaO) (a b c d:Value):Qa7→Value→IM→HL→Prop:=
 fun(e:Qa7) (v:Value) (g:IM) (f:HL)=>(.agg #[(.string e.Op),(.int .i64 e.At),(.int .i64 e.Code)])=v∧f=[]
theorem QtB (a0:QaO) (M:IM) (e i j k:Value) (p:RS (Kd.int .i64) M e a0.Ids) (A:RS (Kd.int .i64) M i a0.Isr) (B:RS (Kd.int .i64) M j a0.Add) (C:RS (Kd.int .i64) M k a0.Drop) (e9:Qa7) (h:Ql8 a0=some e9):
 Tri prog 71 #[(QjM a0 e i j k)] M [] (QqG a0 e i j k e9):=by
 unfold Ql8 at h
 refine Te func71 Z Z ?_
 intro F ρ j1
 refine Sr (We (box (cs:=(l102 a0 e i j k).toArray) (congrArg Value.cells (asE (QjM a0 e i j k) (j1 0)))) Z ?_)
 rintro _ _ _ - ⟨rfl,l,rfl,rfl⟩
 refine We (Al QoB Z) Z ?_
 rintro _ _ _ - ⟨rfl,O,rfl,rfl⟩
 refine Ns (qu (pt l 0) (Fa QvB Z Z) (qu (Iv a0.Kind) (Lb 1 pl3 Z Z Z) (qa (Iv a0.Kind) (Nt (Cs ?_)))))
 obtain ⟨c9,f0,h⟩:=bnd h
 refine Jf (fun(c9:Bool) K M' H'=>M.le M'∧[(O, .cells #[(Sv ⟨#[]⟩),(Iv 0),(Iv 0)] 130 (0,0))]::[(l, .cells (l102 a0 e i j k).toArray 102 (0,0))]::F=H'∧K 1=(pt l 0)∧K 2=(pt O 0)∧K 3=(Iv a0.Kind)∧K 12=(Bv c9)) c9 ?_ ?_
 have h:=f0
 refine Cg (qm (Iv a0.Kind) (qu (Bv (decide (a0.Kind<1))) (lss Z Z) (qm (Bv (decide (a0.Kind<1))) ?_)))
 rcases Bi h with⟨P,h⟩ |⟨P,h⟩
 iterate 2 refine Of 9 Z Z P Z ?_
 refine qu (Bv true) (Pt Z P Z) (Wz ?_)
 obtain rfl:=oi h
 exact Tj ⟨lr,Z,Z,Z,Z,Z⟩
 refine On 9 Z Z P (qm (Iv a0.Kind) (qo 9 P (Bv (decide ((12:Int)<a0.Kind))) (gtr Z Z) (qu (Bv (decide ((12:Int)<a0.Kind))) (Pf Z P Z) (Wz ?_))))
 obtain rfl:=oi h
 exact Tj ⟨lr,Z,Z,Z,Z,Z⟩
 rintro j2 j3 j4 ⟨x,rfl,D,r,E,a6⟩
 refine Ch h a6 (fun f2 h=> ?_) (fun f2 h=> ?_)
 refine Sr (qM (Iv a0.Kind) E (qu (.agg #[(Sv ⟨#[107,105,110,100]⟩),(Iv a0.Kind),(Iv 5)]) (Bl (cl:=[(Sv ⟨#[107,105,110,100]⟩),(Iv a0.Kind),(Iv 5)]) QoB QsO (Pc (Sv ⟨#[107,105,110,100]⟩) Z Z (Pc (Iv a0.Kind) Z Z (Pc (Iv 5) Z Z Pz))) Z) (We (Sg (v:=(.agg #[(Sv ⟨#[107,105,110,100]⟩),(Iv a0.Kind),(Iv 5)])) (vl:=[(Sv ⟨#[107,105,110,100]⟩),(Iv a0.Kind),(Iv 5)]) (arr':=[(Sv ⟨#[107,105,110,100]⟩),(Iv a0.Kind),(Iv 5)]) Z QiH r Z (onb Z) Z Z Z) Z ?_)))
 rintro _ _ _ - ⟨rfl,rfl⟩
 exact Nt (Cr (Tr (Qa (Dr (Rd h [] (fun _ hs=>hs.drop) (QbA Z (Rc (cs:=[(Sv ⟨#[107,105,110,100]⟩),(Iv a0.Kind),(Iv 5)]) 0 Qp2 QiH r Z Z)) x ⟨Z,Z⟩)))))
 refine Ck (Tc (Cs (Sr (qu (QjM a0 e i j k) (La (cs:=(l102 a0 e i j k)) 1 QvA QrH D Z Z) ?_))))
 obtain ⟨w,f3,h⟩:=bnd h
 have p:=p.mono x
 have A:=A.mono x
 have B:=B.mono x
 have C:=C.mono x
 refine We (Ca Q7I (QqF a0 _ _ _ _ _ p A B C w f3) (Qb2 Z)) Z ?_
 rintro _ h9 _ S ⟨_,⟨rfl,rfl⟩,rfl⟩
 refine WL.a0 (We (Al QoB Z) Z ?_)
 rintro _ _ _ - ⟨rfl,a7,rfl,rfl⟩
 refine We (Sg (v:=(Q22 w)) (vl:=(l130 w)) (arr':=(l130 w)) Z QiH Z Z (onb Z) Z Z Z) Z ?_
 rintro _ _ _ - ⟨rfl,rfl⟩
 refine Ns (qu (pt a7 2) (Fa Qw2 Z Z) (qu (Iv w.Code) (Lb 0 pl34 Z Z Z) (qu (Bv (decide (w.Code≠0))) (neq Z Z) (Nt (Ch h Z (fun f4 h=> ?_) (fun f4 h=> ?_))))))
 refine Sr (qu (Q22 w) (La (cs:=(l130 w)) 0 Qp2 QiH Z Z Z) (WL.f1 (We (Sg (v:=(Q22 w)) (vl:=(l130 w)) (arr':=(l130 w)) Z QiH r Z (onb Z) Z Z Z) Z ?_)))
 rintro _ _ _ - ⟨rfl,rfl⟩
 exact Nt (Cr (Tr (Qa (Dr (Qa (Dr (Rd h [] (fun _ hs=>hs.drop) (QbA Z (Rc (cs:=(l130 w)) 0 Qp2 QiH r Z Z)) (x.trans S) ⟨Z,Z⟩)))))))
 refine Ck (Tc (Cs ?_))
 obtain ⟨d0,f5,h⟩:=bnd h
 refine Jf (fun(d0:Bool) K M' H'=>h9.le M'∧[(a7, .cells (l130 w).toArray 130 (0,0))]::[(O, .cells #[(Sv ⟨#[]⟩),(Iv 0),(Iv 0)] 130 (0,0))]::[(l, .cells (l102 a0 e i j k).toArray 102 (0,0))]::F=H'∧K 1=(pt l 0)∧K 2=(pt O 0)∧K 3=(Iv a0.Kind)∧K 27=(Bv d0)) d0 ?_ ?_
 have h:=f5
 refine Cg (qu (pt l 9) (Fa Qw1 D Z) (qu (Bv a0.Flag) (Lb 2 pl4 Z Z Z) (qm (Bv a0.Flag) ?_)))
 rcases Bi h with⟨L,h⟩ |⟨L,h⟩
 refine On 23 Z Z L (qM (Iv a0.Kind) E (On 23 Z Z L ?_))
 obtain ⟨d1,f6,h⟩:=bnd h
 refine We (Ca Qn4 (QbU a0.Kind (102:Int) _ d1 f6) (QaS Z Z)) Z ?_
 rintro _ j5 _ d2 ⟨_,⟨rfl,rfl⟩,rfl⟩
 refine WL.a0 (qo 23 L (Bv (!d1)) (PO.not Z) (qu (Bv (!d1)) (Pt Z L Z) (Wz ?_)))
 obtain rfl:=oi h
 exact Tj ⟨d2,Z,D,r,E,Z⟩
 iterate 3 refine Of 23 Z Z L Z ?_
 refine qu (Bv false) (Pf Z L Z) (Wz ?_)
 obtain rfl:=oi h
 exact Tj ⟨lr,Z,D,r,E,Z⟩
 rintro j6 i0 j7 ⟨a8,rfl,m,y,s,a9⟩
 have f7:=(x.trans S).trans a8
 refine Ch h a9 (fun f8 h=> ?_) (fun f8 h=> ?_)
 refine Sr (qu (.agg #[(Sv ⟨#[102,108,97,103]⟩),(Iv 1),(Iv 1)]) (Bl (cl:=[(Sv ⟨#[102,108,97,103]⟩),(Iv 1),(Iv 1)]) QoB QsO (Pc (Sv ⟨#[102,108,97,103]⟩) Z Z (Pc (Iv 1) Z Z (Pc (Iv 1) Z Z Pz))) Z) (WL.f1 (We (Sg (v:=(.agg #[(Sv ⟨#[102,108,97,103]⟩),(Iv 1),(Iv 1)])) (vl:=[(Sv ⟨#[102,108,97,103]⟩),(Iv 1),(Iv 1)]) (arr':=[(Sv ⟨#[102,108,97,103]⟩),(Iv 1),(Iv 1)]) Z QiH y Z (onb Z) Z Z Z) Z ?_)))
 rintro _ _ _ - ⟨rfl,rfl⟩
 exact Nt (Cr (Tr (Qa (Dr (Qa (Dr (Rd h [] (fun _ hs=>hs.drop) (QbA Z (Rc (cs:=[(Sv ⟨#[102,108,97,103]⟩),(Iv 1),(Iv 1)]) 0 Qp2 QiH y Z Z)) f7 ⟨Z,Z⟩)))))))
 refine Ck (Tc (Cs ?_))
 obtain ⟨d3,f9,h⟩:=bnd h
 refine Jf (fun(d3:Bool) K M' H'=>i0.le M'∧[(a7, .cells (l130 w).toArray 130 (0,0))]::[(O, .cells #[(Sv ⟨#[]⟩),(Iv 0),(Iv 0)] 130 (0,0))]::[(l, .cells (l102 a0 e i j k).toArray 102 (0,0))]::F=H'∧K 1=(pt l 0)∧K 2=(pt O 0)∧K 3=(Iv a0.Kind)∧K 50=(Bv d3)) d3 ?_ ?_
 have h:=f9
 refine WC.draw [0,1,0,4,15,31,63,127,255,127,639,2047,4095,8191,16383,32767,65535,32767,163839,524287,1048575,2097151] (.pure 0 (.pure 1 (.pure 2 (.alt 3 (.alt 4 (.pure 5 (.pure 6 (.pure 7 (.pure 8 (.pure 9 (.alt 10 (.alt 11 (.pure 12 (.pure 13 (.pure 14 (.pure 15 (.pure 16 (.pure 17 (.alt 18 (.alt 19 (.pure 20 (.pure 21 .done)) .none) .none))))))) .none) .none)))))) .none) .none)))) Qc3 (by kernel_rfl) (qt (pt l 10) Z (Fa QrB m Z) (qt (Sv a0.Name) Z (Lb 2 pl9 Z Z Z) (qt (Iv a0.Kind) Z (Mv s) ?_)))
 obtain ⟨g0,g1,h⟩:=bnd h
 refine Ta Z (Ca Qn4 (QbU a0.Kind (110:Int) _ g0 g1) (QaS Z Z)) Z ?_ ?_
 rintro _ j8 _ T ⟨_,⟨rfl,rfl⟩,rfl⟩
 refine⟨(Sk 1 Z (Ss Z (Lb 2 pl9 Z Z Z) Z (Ss Z (Fa QrB m Z) Z trivial))), ?_⟩
 refine WT.a0 ?_
 obtain ⟨d4,g2,h⟩:=bnd h
 refine Ta Z (Ca Q4E (QkW a0.Name g0 _ d4 g2) (QaS Z Z)) Z ?_ ?_
 rintro _ j9 _ U ⟨_,⟨rfl,rfl⟩,rfl⟩
 refine⟨(Sl Z), ?_⟩
 refine WT.a0 (qt (Bv (!d4)) Z (PO.not Z) (qt (Bv (!d4)) Z (Mv Z) ?_))
 rcases Bi h with⟨f,h⟩ |⟨f,h⟩
 refine Tf 35 Z Z Z f Z (Tf 35 Z Z Z f Z (Tf 35 Z Z Z f Z (Tg 35 Z Z Z f Z ⟨(Sk 1 Z (St (Sf 35 Z Z Z f Z) (St (Sf 35 Z Z Z f Z) (Sl Z)))), ?_⟩ ?_)))
 refine Tg 35 Z Z Z f Z ⟨(Sl Z), ?_⟩ ?_
 refine Tf 35 Z Z Z f Z (qt (Bv true) Z (Pt Z f Z) (qt (Bv true) Z (Mv Z) (Tf 43 Z Z Z Z Z (Tf 43 Z Z Z Z Z (Tf 43 Z Z Z Z Z (Tg 43 Z Z Z Z Z ⟨(Sk 1 Z (St (Sf 43 Z Z Z Z Z) (St (Sf 43 Z Z Z Z Z) (Sl Z)))), ?_⟩ ?_))))))
 refine Tg 43 Z Z Z Z Z ⟨(Sl Z), ?_⟩ ?_
 refine Tf 43 Z Z Z Z Z (qt (Bv true) Z (Pt Z Z Z) (Ti ?_))
 obtain rfl:=oi h
 exact Tj ⟨(T.trans U),Z,m,y,s,Z⟩
 exact Tz
 exact Tz
 exact Tz
 exact Tz
 refine Tn (pt l 11) 35 Z Z Z f (Fa QmK m Z) Z (Tn (Sv a0.Key) 35 Z Z Z f (Lb 2 pl9 Z Z Z) Z (Tn (Iv a0.Kind) 35 Z Z Z f (Mv s) Z ?_))
 obtain ⟨g3,g4,h⟩:=bnd h
 refine WT.altOn 35 Z Z Z f (Ca Qn4 (QbU a0.Kind (107:Int) _ g3 g4) (QaS Z Z)) Z ?_ ?_
 rintro _ k0 _ b0 ⟨_,⟨rfl,rfl⟩,rfl⟩
 refine⟨(Sk 1 Z (St (StabA.on 35 Z Z Z f (Lb 2 pl9 Z Z Z) Z) (St (StabA.on 35 Z Z Z f (Fa QmK m Z) Z) (Sl Z)))), ?_⟩
 refine WT.a0 ?_
 obtain ⟨c3,g5,h⟩:=bnd h
 refine WT.altOn 35 Z Z Z f (Ca Q4E (QkW a0.Key g3 _ c3 g5) (QaS Z Z)) Z ?_ ?_
 rintro _ k1 _ b1 ⟨_,⟨rfl,rfl⟩,rfl⟩
 refine⟨(Sl Z), ?_⟩
 refine WT.a0 (Tn (Bv (!c3)) 35 Z Z Z f (PO.not Z) Z (qt (Bv (!c3)) Z (Pf Z f Z) (qt (Bv (!c3)) Z (Mv Z) ?_)))
 rcases Bi h with⟨g,h⟩ |⟨g,h⟩
 refine Tf 43 Z Z Z g Z (Tf 43 Z Z Z g Z (Tf 43 Z Z Z g Z (Tg 43 Z Z Z g Z ⟨(Sk 1 Z (St (Sf 43 Z Z Z g Z) (St (Sf 43 Z Z Z g Z) (Sl Z)))), ?_⟩ ?_)))
 refine Tg 43 Z Z Z g Z ⟨(Sl Z), ?_⟩ ?_
 refine Tf 43 Z Z Z g Z (qt (Bv true) Z (Pt Z g Z) (Ti ?_))
 obtain rfl:=oi h
 exact Tj ⟨(((T.trans U).trans b0).trans b1),Z,m,y,s,Z⟩
 exact Tz
 exact Tz
 refine Tn (pt l 13) 43 Z Z Z g (Fa QwW m Z) Z (Tn (Sv a0.Rack) 43 Z Z Z g (Lb 2 pl9 Z Z Z) Z (Tn (Iv a0.Kind) 43 Z Z Z g (Mv s) Z ?_))
 obtain ⟨g6,g7,h⟩:=bnd h
 refine WT.altOn 43 Z Z Z g (Ca Qn4 (QbU a0.Kind (114:Int) _ g6 g7) (QaS Z Z)) Z ?_ ?_
 rintro _ k2 _ d5 ⟨_,⟨rfl,rfl⟩,rfl⟩
 refine⟨(Sk 1 Z (St (StabA.on 43 Z Z Z g (Lb 2 pl9 Z Z Z) Z) (St (StabA.on 43 Z Z Z g (Fa QwW m Z) Z) (Sl Z)))), ?_⟩
 refine WT.a0 ?_
 obtain ⟨d6,g8,h⟩:=bnd h
 refine WT.altOn 43 Z Z Z g (Ca Q4E (QkW a0.Rack g6 _ d6 g8) (QaS Z Z)) Z ?_ ?_
 rintro _ k3 _ d7 ⟨_,⟨rfl,rfl⟩,rfl⟩
 refine⟨(Sl Z), ?_⟩
 refine WT.a0 (Tn (Bv (!d6)) 43 Z Z Z g (PO.not Z) Z (qt (Bv (!d6)) Z (Pf Z g Z) (Ti ?_)))
 obtain rfl:=oi h
 exact Tj ⟨(((((T.trans U).trans b0).trans b1).trans d5).trans d7),Z,m,y,s,Z⟩
 exact Tz
 exact Tz
 exact Tz
 exact Tz
 exact Tz
 exact Tz
 rintro k4 i1 k5 ⟨b2,rfl,n,t,z,b3⟩
 have i2:=(S.trans a8).trans b2
 have b4:=f7.trans b2
 refine Ch h b3 (fun g9 h=> ?_) (fun g9 h=> ?_)
 refine Sr (qu (pt l 10) (Fa QrB n Z) (qu (Sv a0.Name) (Lb 2 pl9 Z Z Z) (qu (Iv (a0.Name.size:Int)) (lenStr underlying9 Z) (qu (.agg #[(Sv ⟨#[110,97,109,101]⟩),(Iv (a0.Name.size:Int)),(Iv 1)]) (Bl (cl:=[(Sv ⟨#[110,97,109,101]⟩),(Iv (a0.Name.size:Int)),(Iv 1)]) QoB QsO (Pc (Sv ⟨#[110,97,109,101]⟩) Z Z (Pc (Iv (a0.Name.size:Int)) Z Z (Pc (Iv 1) Z Z Pz))) Z) (WL.f1 (We (Sg (v:=(.agg #[(Sv ⟨#[110,97,109,101]⟩),(Iv (a0.Name.size:Int)),(Iv 1)])) (vl:=[(Sv ⟨#[110,97,109,101]⟩),(Iv (a0.Name.size:Int)),(Iv 1)]) (arr':=[(Sv ⟨#[110,97,109,101]⟩),(Iv (a0.Name.size:Int)),(Iv 1)]) Z QiH t Z (onb Z) Z Z Z) Z ?_))))))
 rintro _ _ _ - ⟨rfl,rfl⟩
 exact Nt (Cr (Tr (Qa (Dr (Qa (Dr (Rd h [] (fun _ hs=>hs.drop) (QbA Z (Rc (cs:=[(Sv ⟨#[110,97,109,101]⟩),(Iv (a0.Name.size:Int)),(Iv 1)]) 0 Qp2 QiH t Z Z)) b4 ⟨Z,Z⟩)))))))
 refine Ck (Tc (Cs ?_))
 obtain ⟨d8,h0,h⟩:=bnd h
 refine Jf (fun(d8:Bool) K M' H'=>i1.le M'∧[(a7, .cells (l130 w).toArray 130 (0,0))]::[(O, .cells #[(Sv ⟨#[]⟩),(Iv 0),(Iv 0)] 130 (0,0))]::[(l, .cells (l102 a0 e i j k).toArray 102 (0,0))]::F=H'∧K 1=(pt l 0)∧K 2=(pt O 0)∧K 3=(Iv a0.Kind)∧K 72=(Bv d8)) d8 ?_ ?_
 have h:=h0
 refine Cg (qu (pt l 12) (Fa QrC n Z) (qu (Sv a0.Value) (Lb 2 pl9 Z Z Z) (qu (Iv (a0.Value.size:Int)) (lenStr underlying9 Z) (qu (Bv (decide ((256:Int)<(a0.Value.size:Int)))) (gtr Z Z) (qm (Bv (decide ((256:Int)<(a0.Value.size:Int)))) ?_)))))
 rcases Bi h with⟨o,h⟩ |⟨o,h⟩
 iterate 4 refine Of 59 Z Z o Z ?_
 refine WL.offU 63 Z Z Z (WL.offU 63 Z Z Z (WL.offU 63 Z Z Z (WL.offU 66 Z Z Z (WL.offU 66 Z Z Z (WL.offU 66 Z Z Z (WL.offU 63 Z Z Z (Of 59 Z Z o Z (qu (Bv true) (Pt Z o Z) (Wz ?_)))))))))
 obtain rfl:=oi h
 exact Tj ⟨lr,Z,n,t,z,Z⟩
 refine qo 59 o (pt l 12) (Fa QrC n Z) (qo 59 o (Sv a0.Value) (Lb 2 pl9 Z Z Z) (qo 59 o (Bv (!decide (a0.Value=(⟨#[]⟩:ByteArray)))) (sneq Z Z) (On 59 Z Z o (qm (Bv (!decide (a0.Value=(⟨#[]⟩:ByteArray)))) ?_))))
 rcases Bi h with⟨q,h⟩ |⟨q,h⟩
 refine qo 63 q (pt l 9) (Fa Qw1 n Z) (qo 63 q (Bv a0.Flag) (Lb 2 pl4 Z Z Z) (On 63 Z Z q (qm (Bv a0.Flag) ?_)))
 rcases Bi h with⟨N,h⟩ |⟨N,h⟩
 iterate 3 refine Of 66 Z Z N Z ?_
 refine qo 63 q (Bv true) (Pt Z N Z) (qo 59 o (Bv true) (Pt Z q Z) (qu (Bv true) (Pf Z o Z) (Wz ?_)))
 obtain rfl:=oi h
 exact Tj ⟨lr,Z,n,t,z,Z⟩
 refine On 66 Z Z N (qM (Iv a0.Kind) z (On 66 Z Z N ?_))
 obtain ⟨b5,h1,h⟩:=bnd h
 refine We (Ca Qn4 (QbU a0.Kind (118:Int) _ b5 h1) (QaS Z Z)) Z ?_
 rintro _ k6 _ d9 ⟨_,⟨rfl,rfl⟩,rfl⟩
 refine WL.a0 (qo 66 N (Bv (!b5)) (PO.not Z) (qo 63 q (Bv (!b5)) (Pf Z N Z) (qo 59 o (Bv (!b5)) (Pt Z q Z) (qu (Bv (!b5)) (Pf Z o Z) (Wz ?_)))))
 obtain rfl:=oi h
 exact Tj ⟨d9,Z,n,t,z,Z⟩
 iterate 3 refine Of 63 Z Z q Z ?_
 refine WL.offU 66 Z Z Z (WL.offU 66 Z Z Z (WL.offU 66 Z Z Z (Of 63 Z Z q Z (qo 59 o (Bv false) (Pf Z q Z) (qu (Bv false) (Pf Z o Z) (Wz ?_))))))
 obtain rfl:=oi h
 exact Tj ⟨lr,Z,n,t,z,Z⟩
 rintro k7 i3 k8 ⟨b6,rfl,d,u,G,b7⟩
 have h2:=i2.trans b6
 have V:=b4.trans b6
 refine Ch h b7 (fun h3 h=> ?_) (fun h3 h=> ?_)
 refine Sr (qu (pt l 12) (Fa QrC d Z) (qu (Sv a0.Value) (Lb 2 pl9 Z Z Z) (qu (Iv (a0.Value.size:Int)) (lenStr underlying9 Z) (qu (.agg #[(Sv ⟨#[118,97,108,117,101]⟩),(Iv (a0.Value.size:Int)),(Iv 6)]) (Bl (cl:=[(Sv ⟨#[118,97,108,117,101]⟩),(Iv (a0.Value.size:Int)),(Iv 6)]) QoB QsO (Pc (Sv ⟨#[118,97,108,117,101]⟩) Z Z (Pc (Iv (a0.Value.size:Int)) Z Z (Pc (Iv 6) Z Z Pz))) Z) (WL.f1 (We (Sg (v:=(.agg #[(Sv ⟨#[118,97,108,117,101]⟩),(Iv (a0.Value.size:Int)),(Iv 6)])) (vl:=[(Sv ⟨#[118,97,108,117,101]⟩),(Iv (a0.Value.size:Int)),(Iv 6)]) (arr':=[(Sv ⟨#[118,97,108,117,101]⟩),(Iv (a0.Value.size:Int)),(Iv 6)]) Z QiH u Z (onb Z) Z Z Z) Z ?_))))))
 rintro _ _ _ - ⟨rfl,rfl⟩
 exact Nt (Cr (Tr (Qa (Dr (Qa (Dr (Rd h [] (fun _ hs=>hs.drop) (QbA Z (Rc (cs:=[(Sv ⟨#[118,97,108,117,101]⟩),(Iv (a0.Value.size:Int)),(Iv 6)]) 0 Qp2 QiH u Z Z)) V ⟨Z,Z⟩)))))))
 refine Ck (Tc (Cs ?_))
 obtain ⟨e0,h4,h⟩:=bnd h
 refine Jf (fun(e0:Bool) K M' H'=>i3.le M'∧[(a7, .cells (l130 w).toArray 130 (0,0))]::[(O, .cells #[(Sv ⟨#[]⟩),(Iv 0),(Iv 0)] 130 (0,0))]::[(l, .cells (l102 a0 e i j k).toArray 102 (0,0))]::F=H'∧K 1=(pt l 0)∧K 2=(pt O 0)∧K 106=(Bv e0)) e0 ?_ ?_
 have h:=h4
 refine WC.draw [0,1,0,4,15,31,63,127,255,127,639,2047,4095,8191,16383,32767,65535,32767,163839,524287,1048575,2097151,4194303,8388607,16777215,8388607,41943039,134217727,268435455,536870911] (.pure 0 (.pure 1 (.pure 2 (.alt 3 (.alt 4 (.pure 5 (.pure 6 (.pure 7 (.pure 8 (.pure 9 (.alt 10 (.alt 11 (.pure 12 (.pure 13 (.pure 14 (.pure 15 (.pure 16 (.pure 17 (.alt 18 (.alt 19 (.pure 20 (.pure 21 (.pure 22 (.pure 23 (.pure 24 (.pure 25 (.alt 26 (.alt 27 (.pure 28 (.pure 29 .done)) .none) .none))))))) .none) .none))))))) .none) .none)))))) .none) .none)))) Qc3 (by kernel_rfl) (qt (pt l 14) Z (Fa Qt8 d Z) (qt e Z (Lb 2 pl51 Z Z Z) (qt (Iv a0.Kind) Z (Mv G) ?_)))
 obtain ⟨h5,h6,h⟩:=bnd h
 refine Ta Z (Ca Qn4 (QbU a0.Kind (105:Int) _ h5 h6) (QaS Z Z)) Z ?_ ?_
 rintro _ k9 _ W ⟨_,⟨rfl,rfl⟩,rfl⟩
 have h7:=h2.trans W
 refine⟨(Sk 1 Z (Ss Z (Lb 2 pl51 Z Z Z) Z (Ss Z (Fa Qt8 d Z) Z trivial))), ?_⟩
 refine WT.a0 ?_
 obtain ⟨e1,h8,h⟩:=bnd h
 have p:=p.mono h7
 refine Ta Z (Ca Q24 (QjO a0.Ids h5 _ _ p e1 h8) (QaS Z Z)) Z ?_ ?_
 rintro _ l0 _ X ⟨_,⟨rfl,rfl⟩,rfl⟩
 have i4:=h7.trans X
 refine⟨(Sl Z), ?_⟩
 refine WT.a0 (qt (Bv (!e1)) Z (PO.not Z) (qt (Bv (!e1)) Z (Mv Z) ?_))
 rcases Bi h with⟨a,h⟩ |⟨a,h⟩
 refine Tf 83 Z Z Z a Z (Tf 83 Z Z Z a Z (Tf 83 Z Z Z a Z (Tg 83 Z Z Z a Z ⟨(Sk 1 Z (St (Sf 83 Z Z Z a Z) (St (Sf 83 Z Z Z a Z) (Sl Z)))), ?_⟩ ?_)))
 refine Tg 83 Z Z Z a Z ⟨(Sl Z), ?_⟩ ?_
 refine Tf 83 Z Z Z a Z (qt (Bv true) Z (Pt Z a Z) (qt (Bv true) Z (Mv Z) (Tf 91 Z Z Z Z Z (Tf 91 Z Z Z Z Z (Tf 91 Z Z Z Z Z (Tg 91 Z Z Z Z Z ⟨(Sk 1 Z (St (Sf 91 Z Z Z Z Z) (St (Sf 91 Z Z Z Z Z) (Sl Z)))), ?_⟩ ?_))))))
 refine Tg 91 Z Z Z Z Z ⟨(Sl Z), ?_⟩ ?_
 refine Tf 91 Z Z Z Z Z (qt (Bv true) Z (Pt Z Z Z) (qt (Bv true) Z (Mv Z) (Tf 99 Z Z Z Z Z (Tf 99 Z Z Z Z Z (Tf 99 Z Z Z Z Z (Tg 99 Z Z Z Z Z ⟨(Sk 1 Z (St (Sf 99 Z Z Z Z Z) (St (Sf 99 Z Z Z Z Z) (Sl Z)))), ?_⟩ ?_))))))
 refine Tg 99 Z Z Z Z Z ⟨(Sl Z), ?_⟩ ?_
 refine Tf 99 Z Z Z Z Z (qt (Bv true) Z (Pt Z Z Z) (Ti ?_))
 obtain rfl:=oi h
 exact Tj ⟨(W.trans X),Z,d,u,Z⟩
 exact Tz
 exact Tz
 exact Tz
 exact Tz
 exact Tz
 exact Tz
 refine Tn (pt l 15) 83 Z Z Z a (Fa QwX d Z) Z (Tn i 83 Z Z Z a (Lb 2 pl51 Z Z Z) Z (Tn (Iv a0.Kind) 83 Z Z Z a (Mv G) Z ?_))
 obtain ⟨c6,e2,h⟩:=bnd h
 refine WT.altOn 83 Z Z Z a (Ca Qn4 (QbU a0.Kind (109:Int) _ c6 e2) (QaS Z Z)) Z ?_ ?_
 rintro _ i5 _ a1 ⟨_,⟨rfl,rfl⟩,rfl⟩
 have b8:=i4.trans a1
 refine⟨(Sk 1 Z (St (StabA.on 83 Z Z Z a (Lb 2 pl51 Z Z Z) Z) (St (StabA.on 83 Z Z Z a (Fa QwX d Z) Z) (Sl Z)))), ?_⟩
 refine WT.a0 ?_
 obtain ⟨a2,e3,h⟩:=bnd h
 have A:=A.mono b8
 refine WT.altOn 83 Z Z Z a (Ca Q24 (QjO a0.Isr c6 _ _ A a2 e3) (QaS Z Z)) Z ?_ ?_
 rintro _ i6 _ Q ⟨_,⟨rfl,rfl⟩,rfl⟩
 have b9:=((W.trans X).trans a1).trans Q
 refine⟨(Sl Z), ?_⟩
 refine WT.a0 (Tn (Bv (!a2)) 83 Z Z Z a (PO.not Z) Z (qt (Bv (!a2)) Z (Pf Z a Z) (qt (Bv (!a2)) Z (Mv Z) ?_)))
 rcases Bi h with⟨b,h⟩ |⟨b,h⟩
 refine Tf 91 Z Z Z b Z (Tf 91 Z Z Z b Z (Tf 91 Z Z Z b Z (Tg 91 Z Z Z b Z ⟨(Sk 1 Z (St (Sf 91 Z Z Z b Z) (St (Sf 91 Z Z Z b Z) (Sl Z)))), ?_⟩ ?_)))
 refine Tg 91 Z Z Z b Z ⟨(Sl Z), ?_⟩ ?_
 refine Tf 91 Z Z Z b Z (qt (Bv true) Z (Pt Z b Z) (qt (Bv true) Z (Mv Z) (Tf 99 Z Z Z Z Z (Tf 99 Z Z Z Z Z (Tf 99 Z Z Z Z Z (Tg 99 Z Z Z Z Z ⟨(Sk 1 Z (St (Sf 99 Z Z Z Z Z) (St (Sf 99 Z Z Z Z Z) (Sl Z)))), ?_⟩ ?_))))))
 refine Tg 99 Z Z Z Z Z ⟨(Sl Z), ?_⟩ ?_
 refine Tf 99 Z Z Z Z Z (qt (Bv true) Z (Pt Z Z Z) (Ti ?_))
 obtain rfl:=oi h
 exact Tj ⟨b9,Z,d,u,Z⟩
 exact Tz
 exact Tz
 exact Tz
 exact Tz
 refine Tn (pt l 16) 91 Z Z Z b (Fa QwY d Z) Z (Tn j 91 Z Z Z b (Lb 2 pl51 Z Z Z) Z (Tn (Iv a0.Kind) 91 Z Z Z b (Mv G) Z ?_))
 obtain ⟨c7,e4,h⟩:=bnd h
 refine WT.altOn 91 Z Z Z b (Ca Qn4 (QbU a0.Kind (120:Int) _ c7 e4) (QaS Z Z)) Z ?_ ?_
 rintro _ i7 _ I ⟨_,⟨rfl,rfl⟩,rfl⟩
 refine⟨(Sk 1 Z (St (StabA.on 91 Z Z Z b (Lb 2 pl51 Z Z Z) Z) (St (StabA.on 91 Z Z Z b (Fa QwY d Z) Z) (Sl Z)))), ?_⟩
 refine WT.a0 ?_
 obtain ⟨a3,e5,h⟩:=bnd h
 have B:=B.mono ((b8.trans Q).trans I)
 refine WT.altOn 91 Z Z Z b (Ca Q24 (QjO a0.Add c7 _ _ B a3 e5) (QaS Z Z)) Z ?_ ?_
 rintro _ i8 _ R ⟨_,⟨rfl,rfl⟩,rfl⟩
 refine⟨(Sl Z), ?_⟩
 refine WT.a0 (Tn (Bv (!a3)) 91 Z Z Z b (PO.not Z) Z (qt (Bv (!a3)) Z (Pf Z b Z) (qt (Bv (!a3)) Z (Mv Z) ?_)))
 rcases Bi h with⟨c,h⟩ |⟨c,h⟩
 refine Tf 99 Z Z Z c Z (Tf 99 Z Z Z c Z (Tf 99 Z Z Z c Z (Tg 99 Z Z Z c Z ⟨(Sk 1 Z (St (Sf 99 Z Z Z c Z) (St (Sf 99 Z Z Z c Z) (Sl Z)))), ?_⟩ ?_)))
 refine Tg 99 Z Z Z c Z ⟨(Sl Z), ?_⟩ ?_
 refine Tf 99 Z Z Z c Z (qt (Bv true) Z (Pt Z c Z) (Ti ?_))
 obtain rfl:=oi h
 exact Tj ⟨((b9.trans I).trans R),Z,d,u,Z⟩
 exact Tz
 exact Tz
 refine Tn (pt l 17) 99 Z Z Z c (Fa QwZ d Z) Z (Tn k 99 Z Z Z c (Lb 2 pl51 Z Z Z) Z (Tn (Iv a0.Kind) 99 Z Z Z c (Mv G) Z ?_))
 obtain ⟨c8,e6,h⟩:=bnd h
 refine WT.altOn 99 Z Z Z c (Ca Qn4 (QbU a0.Kind (120:Int) _ c8 e6) (QaS Z Z)) Z ?_ ?_
 rintro _ i9 _ a4 ⟨_,⟨rfl,rfl⟩,rfl⟩
 refine⟨(Sk 1 Z (St (StabA.on 99 Z Z Z c (Lb 2 pl51 Z Z Z) Z) (St (StabA.on 99 Z Z Z c (Fa QwZ d Z) Z) (Sl Z)))), ?_⟩
 refine WT.a0 ?_
 obtain ⟨c0,e7,h⟩:=bnd h
 have C:=C.mono ((((b8.trans Q).trans I).trans R).trans a4)
 refine WT.altOn 99 Z Z Z c (Ca Q24 (QjO a0.Drop c8 _ _ C c0 e7) (QaS Z Z)) Z ?_ ?_
 rintro _ j0 _ c4 ⟨_,⟨rfl,rfl⟩,rfl⟩
 refine⟨(Sl Z), ?_⟩
 refine WT.a0 (Tn (Bv (!c0)) 99 Z Z Z c (PO.not Z) Z (qt (Bv (!c0)) Z (Pf Z c Z) (Ti ?_)))
 obtain rfl:=oi h
 exact Tj ⟨((((b9.trans I).trans R).trans a4).trans c4),Z,d,u,Z⟩
 exact Tz
 exact Tz
 exact Tz
 exact Tz
 exact Tz
 exact Tz
 exact Tz
 exact Tz
 rintro l1 l2 l3 ⟨Y,rfl,c5,J,a5⟩
 refine Ch h a5 (fun e8 h=> ?_) (fun e8 h=> ?_)
 refine Sr (qu (pt l 14) (Fa Qt8 c5 Z) (qu e (Lb 2 pl51 Z Z Z) ?_))
 have p:=p.mono (h2.trans Y)
 refine qu (Iv (a0.Ids.length:Int)) (lenS underlying51 Z p.len) (qu (.agg #[(Sv ⟨#[114,111,119]⟩),(Iv (a0.Ids.length:Int)),(Iv 18)]) (Bl (cl:=[(Sv ⟨#[114,111,119]⟩),(Iv (a0.Ids.length:Int)),(Iv 18)]) QoB QsO (Pc (Sv ⟨#[114,111,119]⟩) Z Z (Pc (Iv (a0.Ids.length:Int)) Z Z (Pc (Iv 18) Z Z Pz))) Z) (WL.f1 (We (Sg (v:=(.agg #[(Sv ⟨#[114,111,119]⟩),(Iv (a0.Ids.length:Int)),(Iv 18)])) (vl:=[(Sv ⟨#[114,111,119]⟩),(Iv (a0.Ids.length:Int)),(Iv 18)]) (arr':=[(Sv ⟨#[114,111,119]⟩),(Iv (a0.Ids.length:Int)),(Iv 18)]) Z QiH J Z (onb Z) Z Z Z) Z ?_)))
 rintro _ _ _ - ⟨rfl,rfl⟩
 exact Nt (Cr (Tr (Qa (Dr (Qa (Dr (Rd h [] (fun _ hs=>hs.drop) (QbA Z (Rc (cs:=[(Sv ⟨#[114,111,119]⟩),(Iv (a0.Ids.length:Int)),(Iv 18)]) 0 Qp2 QiH J Z Z)) (V.trans Y) ⟨Z,Z⟩)))))))
 refine Ck (Tc (Sr (qu (.agg #[(Sv ⟨#[]⟩),(Iv 0),(Iv 0)]) (Bl (cl:=[(Sv ⟨#[]⟩),(Iv 0),(Iv 0)]) QoB QsO Pz Z) (WL.f1 (We (Sg (v:=(.agg #[(Sv ⟨#[]⟩),(Iv 0),(Iv 0)])) (vl:=[(Sv ⟨#[]⟩),(Iv 0),(Iv 0)]) (arr':=[(Sv ⟨#[]⟩),(Iv 0),(Iv 0)]) Z QiH J Z (onb Z) Z Z Z) Z ?_)))))
 rintro _ _ _ - ⟨rfl,rfl⟩
 exact Nt (Cr (Qa (Dr (Qa (Dr (Rd h [] (fun _ hs=>hs.drop) (QbA Z (Rc (cs:=[(Sv ⟨#[]⟩),(Iv 0),(Iv 0)]) 0 Qp2 QiH J Z Z)) (V.trans Y) ⟨Z,Z⟩))))))
noncomputable def QhP (a0:QaA) (a1:Int) (b:Int):Option (Int⊕(Unit⊕(Int×Int×ByteArray×Bool×Bool))):=
 match b with
 |a=>
 (if(decide (a<(a0.Brokers.length:Int)))=true then(grd (0≤a∧a<a0.Brokers.length) (if(decide (((rd a0.Brokers a).Id)=a1))=true then(grd (0≤a∧a<a0.Brokers.length) (some (inr (inr ((rd a0.Brokers a).Id,(rd a0.Brokers a).Epoch,(rd a0.Brokers a).Rack,(rd a0.Brokers a).Fenced,(rd a0.Brokers a).Leaving)))))else(some (inl (i64.wrap (a+(1:Int)))))))else(some (inr (inl ()))))
noncomputable def QeE (a0:QaA) (a1:Int):Option (QaD×Bool):=
 ((((iter (QhP a0 a1) (0:Int)).bind (Sum.elim (fun _=>(some (inl ()))) (fun(a,b,c,d,e)=>(((some ((⟨a,b,c,d,e⟩:QaD),true))).bind fun r=>some (inr r))))):Option (Unit⊕(QaD×Bool))).bind (Sum.elim (fun _=>(some ((⟨(0:Int),(0:Int),(⟨#[]⟩:ByteArray),false,false⟩:QaD),false))) some))
def QpH (a0:QaA) (a1:Int) (b c d e:Value):(QaD×Bool)→Value→IM→HL→Prop:=
 fun(f:(QaD×Bool)) (v:Value) (j:IM) (g:HL)=>match f with |(a,i)=>(.tuple #[(.agg #[(.int .i64 a.Id),(.int .i64 a.Epoch),(.string a.Rack),(.bool a.Fenced),(.bool a.Leaving)]),(.bool i)])=v∧g=[]
theorem QfV (a0:QaA) (a1:Int) (M:IM) (b f g i:Value) (k:RS QaG M b a0.Brokers) (P:RS QaI M f a0.Topics) (Q:RS QaH M g a0.Configs) (R:RS QaL M i a0.Done) (B:(QaD×Bool)) (h:QeE a0 a1=some B):
 Tri prog 106 #[(a29_ a0 b f g i),(Iv a1)] M [] (QpH a0 a1 b f g i B):=by
 unfold QeE at h
 refine Te func106 Z Z ?_
 intro F ρ S
 refine Sr (We (box (cs:=(l29 a0 b f g i).toArray) (congrArg Value.cells (asE (a29_ a0 b f g i) (S 0)))) Z ?_)
 rintro _ _ _ - ⟨rfl,r,rfl,rfl⟩
 refine We (Al ze66 Z) Z ?_
 rintro _ _ _ - ⟨rfl,s,rfl,rfl⟩
 refine qa (Bv false) (Nt ?_)
 obtain ⟨K,C,h⟩:=bnd h
 refine WC.joinE (fun(_:Unit) A L N=>M.le L∧[(s, .cells z66_.toArray 66 (0,0))]::[(r, .cells (l29 a0 b f g i).toArray 29 (0,0))]::F=N∧A 4=(pt s 0)) K ?_ ?_
 have D:=h
 have h:=C
 refine Sr (qa (Iv 0) (Nt (Bk ?_)))
 obtain ⟨V,E,t⟩:=bnd h
 clear h
 refine WC.loop E (fun(a:Int) A L N=>M.le L∧[(s, .cells z66_.toArray 66 (0,0))]::[(r, .cells (l29 a0 b f g i).toArray 29 (0,0))]::F=N∧A 1=(Iv a1)∧A 2=(pt r 0)∧A 4=(pt s 0)∧A 6=(Iv a)) ?_ ?_
 exact⟨lr,Z,(S 1),Z,Z,Z⟩
 rintro a W X Y a2 h ⟨j,rfl,m,c,d,e⟩
 unfold QhP at h
 refine Cs (Sr (qM (Iv a) e (qu (pt r 0) (Fa QeU c Z) (qu b (Lb 1 pl24 Z Z Z) ?_))))
 have k:=k.mono j
 refine qu (Iv (a0.Brokers.length:Int)) (lenS underlying24 Z k.len) (qu (Bv (decide (a<(a0.Brokers.length:Int)))) (lss Z Z) (Nt (Ch h Z (fun G h=> ?_) (fun G h=> ?_))))
 refine Ck (Tc (Cs (Bk (Sr (qu (pt r 0) (Fa QeU c Z) (qu b (Lb 1 pl24 Z Z Z) (qM (Iv a) e ?_)))))))
 obtain ⟨o,h⟩:=Qa1 h
 obtain ⟨I,T,u,w,hhas37⟩:=k.at o.1 o.2 (by decide)
 obtain rfl:=QbB w
 refine qu (.pointer (some I)) (indexAddr (n:=a0.Brokers.length) underlying24 sz66 Z Z o.1 o.2 u) (qu (.pointer (some (I.add 0))) (Fa QhO Z Z) (qu (Iv ((rd a0.Brokers a).Id)) (loadM pl3 Z (IM.has0 hhas37)) (qM (Iv a1) m (qu (Bv (decide (((rd a0.Brokers a).Id)=a1))) (eql Z Z) (Nt (Ch h Z (fun J h=> ?_) (fun J h=> ?_)))))))
 refine Sr (qu (pt r 0) (Fa QeU c Z) (qu b (Lb 1 pl24 Z Z Z) (qM (Iv a) e ?_)))
 obtain ⟨p,h⟩:=Qa1 h
 obtain ⟨O,U,x,y,hhas45⟩:=k.at p.1 p.2 (by decide)
 obtain rfl:=QbB y
 refine qu (.pointer (some O)) (indexAddr (n:=a0.Brokers.length) underlying24 sz66 Z Z p.1 p.2 x) (qu (a66_ (rd a0.Brokers a)) (loadMA (cs:=(l66 (rd a0.Brokers a))) ag66 sz66 Z hhas45) (We (Sg (v:=(a66_ (rd a0.Brokers a))) (vl:=(l66 (rd a0.Brokers a))) (arr':=(l66 (rd a0.Brokers a))) Z sz66 d Z (onb Z) Z Z Z) Z ?_))
 rintro _ _ _ - ⟨rfl,rfl⟩
 refine qa (Bv true) (Nt (Cr (Br (Tr (WQ.leaveR (inr ((rd a0.Brokers a).Id,(rd a0.Brokers a).Epoch,(rd a0.Brokers a).Rack,(rd a0.Brokers a).Fenced,(rd a0.Brokers a).Leaving)) (oi h).symm (fun l=> ?_))))))
 subst l
 have h:=(QdZ t)
 refine Br (Tr ?_)
 have h:=KK.early h D
 exact Qa (Dr (Rd h [] (fun _ hs=>hs.drop) (QaP Z (RVs.cons (Rc (cs:=(l66 (rd a0.Brokers a))) 0 ag66 sz66 d Z Z) (RVs.cons (RV.tmp Z) RVs.nil))) j ⟨Z,Z⟩))
 exact Ck (Bn (Tc (Cg (qM (Iv a) e (qu (Iv (i64.wrap (a+1))) (add Z Z) (qa (Iv (i64.wrap (a+1))) (Wz (WQ.again (i64.wrap (a+1)) (oi h).symm ⟨j,Z,m,c,d,Z⟩))))))))
 refine WC.exit (WQ.thenE (WQ.leaveE (inl ()) (oi h).symm (fun l=> ?_)))
 subst l
 have h:=QeV t
 exact WQ.blockH (WQ.thenFE h ⟨j,Z,d⟩)
 rintro _ a3 a4 a5 rfl ⟨z,rfl,q⟩
 have h:=(Sum.elim_inl _ _ _).symm.trans h
 refine Sr (qu (.agg z66_.toArray) (Bl (cl:=z66_) ze66 fp66 Pz Z) (We (Sg (v:=(.agg z66_.toArray)) (vl:=z66_) (arr':=z66_) Z sz66 q Z (onb Z) Z Z Z) Z ?_))
 rintro _ _ _ - ⟨rfl,rfl⟩
 exact qa (Bv false) (Nt (Cr (Qa (Dr (Rd h [] (fun _ hs=>hs.drop) (QaP Z (RVs.cons (Rc (cs:=z66_) 0 ag66 sz66 q Z Z) (RVs.cons (RV.tmp Z) RVs.nil))) z ⟨Z,Z⟩)))))
noncomputable def QgD (a0:QaA) (a1:Int) (a:Int) (c:Int):Option (Int⊕(Unit⊕Unit)):=
 match c with
 |b=>
 (grd (0≤a∧a<a0.Topics.length) (if(decide (b<(((rd a0.Topics a).Parts).length:Int)))=true then(grd (0≤a∧a<a0.Topics.length) (grd (0≤b∧b<((rd a0.Topics a).Parts).length) (if(decide (((rd ((rd a0.Topics a).Parts) b).Leader)=a1))=true then(some (inr (inr ())))else(some (inl (i64.wrap (b+(1:Int))))))))else(some (inr (inl ())))))
noncomputable def QgE (a0:QaA) (a1:Int) (b:Int):Option (Int⊕(Unit⊕Unit)):=
 match b with
 |a=>
 (if(decide (a<(a0.Topics.length:Int)))=true then((((iter (QgD a0 a1 a) (0:Int)).bind (Sum.elim (fun _=>(some (inl ()))) (fun _=>(((some (inr (inr ())))).bind fun r=>some (inr r))))):Option (Unit⊕(Int⊕(Unit⊕Unit)))).bind (Sum.elim (fun _=>(some (inl (i64.wrap (a+(1:Int)))))) some))else(some (inr (inl ()))))
noncomputable def QgA (a0:QaA) (a1:Int):Option Bool:=
 ((((iter (QgE a0 a1) (0:Int)).bind (Sum.elim (fun _=>(some (inl ()))) (fun _=>(((some true)).bind fun r=>some (inr r))))):Option (Unit⊕Bool)).bind (Sum.elim (fun _=>(some false)) some))
def QqH (a0:QaA) (a1:Int) (a b c d:Value):Bool→Value→IM→HL→Prop:=
 fun(e:Bool) (v:Value) (g:IM) (f:HL)=>(.bool e)=v∧f=[]
theorem Qj9 (a0:QaA) (a1:Int) (M:IM) (c a d e:Value) (c2:RS QaG M c a0.Brokers) (i:RS QaI M a a0.Topics) (c3:RS QaH M d a0.Configs) (c4:RS QaL M e a0.Done) (V:Bool) (h:QgA a0 a1=some V):
 Tri prog 94 #[(a29_ a0 c a d e),(Iv a1)] M [] (QqH a0 a1 c a d e V):=by
 unfold QgA at h
 refine Te func94 Z Z ?_
 intro F ρ c5
 refine Sr (We (box (cs:=(l29 a0 c a d e).toArray) (congrArg Value.cells (asE (a29_ a0 c a d e) (c5 0)))) Z ?_)
 rintro _ _ _ - ⟨rfl,k,rfl,rfl⟩
 refine qa (Bv false) (Nt ?_)
 obtain ⟨c0,W,h⟩:=bnd h
 refine WC.joinE (fun(_:Unit) x K L=>M.le K∧[(k, .cells (l29 a0 c a d e).toArray 29 (0,0))]::F=L) c0 ?_ ?_
 have X:=h
 have h:=W
 refine Sr (qa (Iv 0) (Nt (Bk ?_)))
 obtain ⟨c9,Y,I⟩:=bnd h
 clear h
 refine WC.loop Y (fun(b:Int) x K L=>M.le K∧[(k, .cells (l29 a0 c a d e).toArray 29 (0,0))]::F=L∧x 1=(Iv a1)∧x 2=(pt k 0)∧x 5=(Iv b)) ?_ ?_
 exact⟨lr,Z,(c5 1),Z,Z⟩
 rintro b d0 d1 a2 d2 h ⟨l,rfl,y,s,t⟩
 unfold QgE at h
 refine Cs (Sr (qM (Iv b) t (qu (pt k 1) (Fa QcB s Z) (qu a (Lb 0 pl25 Z Z Z) ?_))))
 have i:=i.mono l
 refine qu (Iv (a0.Topics.length:Int)) (lenS underlying25 Z i.len) (qu (Bv (decide (b<(a0.Topics.length:Int)))) (lss Z Z) (Nt (Ch h Z (fun a3 h=> ?_) (fun a3 h=> ?_))))
 refine Ck (Tc ?_)
 obtain ⟨c1,a4,h⟩:=bnd h
 refine WC.joinE (fun(_:Unit) x K L=>a2.le K∧[(k, .cells (l29 a0 c a d e).toArray 29 (0,0))]::F=L∧x 1=(Iv a1)∧x 2=(pt k 0)∧x 5=(Iv b)) c1 ?_ ?_
 have a5:=h
 have h:=a4
 refine Bk (Sr (qa (Iv 0) (Nt (Bk ?_))))
 obtain ⟨d3,a6,J⟩:=bnd h
 clear h
 refine WC.loop a6 (fun(j:Int) x K L=>a2.le K∧[(k, .cells (l29 a0 c a d e).toArray 29 (0,0))]::F=L∧x 1=(Iv a1)∧x 2=(pt k 0)∧x 5=(Iv b)∧x 6=(Iv j)) ?_ ?_
 exact⟨lr,Z,y,s,t,Z⟩
 rintro j d4 d5 d6 d7 h ⟨m,rfl,o,f,g,p⟩
 unfold QgD at h
 refine Cs (Sr (qM (Iv j) p (qu (pt k 1) (Fa QcB f Z) (qu a (Lb 0 pl25 Z Z Z) (qM (Iv b) g ?_)))))
 obtain ⟨u,h⟩:=Qa1 h
 have i:=i.mono m
 obtain ⟨a7,c6,N,O,hhas34⟩:=i.at u.1 u.2 (by decide)
 obtain ⟨z,rfl,A⟩:=QaW O
 refine qu (.pointer (some a7)) (indexAddr (n:=a0.Topics.length) underlying25 sz50 Z Z u.1 u.2 N) (qu (.pointer (some (a7.add 2))) (Fa Qd0 Z Z) (qu z (loadM pl48 Z (hhas34 2 _ Z)) (qu (Iv (((rd a0.Topics b).Parts).length:Int)) (lenS underlying48 Z A.len) (qu (Bv (decide (j<(((rd a0.Topics b).Parts).length:Int)))) (lss Z Z) (Nt (Ch h Z (fun a8 h=> ?_) (fun a8 h=> ?_)))))))
 refine Ck (Tc (Cs (Bk (Sr (qu (pt k 1) (Fa QcB f Z) (qu a (Lb 0 pl25 Z Z Z) (qM (Iv b) g ?_)))))))
 obtain ⟨v,h⟩:=Qa1 h
 obtain ⟨a9,c7,P,Q,hhas42⟩:=i.at v.1 v.2 (by decide)
 obtain ⟨B,rfl,C⟩:=QaW Q
 refine qu (.pointer (some a9)) (indexAddr (n:=a0.Topics.length) underlying25 sz50 Z Z v.1 v.2 P) (qu (.pointer (some (a9.add 2))) (Fa Qd0 Z Z) (qu B (loadM pl48 Z (hhas42 2 _ Z)) (qM (Iv j) p ?_)))
 obtain ⟨w,h⟩:=Qa1 h
 obtain ⟨b0,c8,R,S,hhas49⟩:=C.at w.1 w.2 (by decide)
 obtain ⟨b2,b3,b4,b5,rfl,b6,b7,b8,b9⟩:=QcY S
 refine qu (.pointer (some b0)) (indexAddr (n:=((rd a0.Topics b).Parts).length) underlying48 sz53 Z Z w.1 w.2 R) (qu (.pointer (some (b0.add 2))) (Fa QkK Z Z) (qu (Iv ((rd ((rd a0.Topics b).Parts) j).Leader)) (loadM pl3 Z (hhas49 2 _ Z)) (qM (Iv a1) o (qu (Bv (decide (((rd ((rd a0.Topics b).Parts) j).Leader)=a1))) (eql Z Z) (Nt (Ch h Z (fun b1 h=> ?_) (fun b1 h=> ?_)))))))
 refine Sr (qa (Bv true) (Nt (Cr (Br (Tr (WQ.leaveR (inr ()) (oi h).symm (fun q=> ?_)))))))
 subst q
 have h:=(QdZ J)
 refine Br (Br (Tr ?_))
 have h:=KK.early h a5
 refine WQ.leaveR (inr ()) (oi h).symm (fun r=> ?_)
 subst r
 have h:=(QdZ I)
 refine Br (Tr ?_)
 have h:=KK.early h X
 exact Dr (Rf h [] Z (Rs Z Z) (l.trans m) ⟨Z,Z⟩)
 exact Ck (Bn (Tc (Cg (qM (Iv j) p (qu (Iv (i64.wrap (j+1))) (add Z Z) (qa (Iv (i64.wrap (j+1))) (Wz (WQ.again (i64.wrap (j+1)) (oi h).symm ⟨m,Z,o,f,g,Z⟩))))))))
 refine WC.exit (WQ.thenE (WQ.leaveE (inl ()) (oi h).symm (fun q=> ?_)))
 subst q
 have h:=QeV J
 exact WQ.blockH (Bn (WQ.thenFE h ⟨m,Z,o,f,g⟩))
 rintro _ d8 d9 e0 rfl ⟨T,rfl,D,E,G⟩
 have h:=(Sum.elim_inl _ _ _).symm.trans h
 exact Cg (qM (Iv b) G (qu (Iv (i64.wrap (b+1))) (add Z Z) (qa (Iv (i64.wrap (b+1))) (Wz (WQ.again (i64.wrap (b+1)) (oi h).symm ⟨(l.trans T),Z,D,E,Z⟩)))))
 refine WC.exit (WQ.thenE (WQ.leaveE (inl ()) (oi h).symm (fun r=> ?_)))
 subst r
 have h:=QeV I
 exact WQ.blockH (WQ.thenFE h ⟨l,Z⟩)
 rintro _ e1 e2 e3 rfl ⟨U,rfl⟩
 have h:=(Sum.elim_inl _ _ _).symm.trans h
 exact Sr (qa (Bv false) (Nt (Cr (Dr (Rf h [] Z (Rs Z Z) U ⟨Z,Z⟩)))))

end Go.Proofs.YtfkmkgpoddbbfaaGreatDoor.G
