/- Go functions: what they come to, and that they do. Printed by a program of the session (gen). -/
import Derived.Test.YtpcbipcdfccnnaaGreatSF
import Derived.Test.YtpcbipcdfccnnaaGreatKShar2
import Derived.Test.YtpcbipcdfccnnaaGreatKConv
import Derived.Test.YtpcbipcdfccnnaaGreatKMap
import Derived.Test.YtpcbipcdfccnnaaGreatKShar
import Derived.Test.YtpcbipcdfccnnaaGreatKTight2
set_option linter.unusedVariables false
set_option linter.unusedSimpArgs false
set_option maxHeartbeats 8000000
set_option maxRecDepth 100000
namespace Go.Proofs.YtpcbipcdfccnnaaGreat.G
open Go Go.KK

noncomputable def f_law15_First:Option (List T_api_Record):=
 (some [lit3_,lit5_,lit4_,lit6_,lit2_,lit1_])
def f_law15_First_post:(List T_api_Record)→Value→IM→HL→Prop:=
 fun(r0:(List T_api_Record)) (v:Value) (M':IM) (H':HL)=>∃ vz0 cz0,vz0=v∧H'=[cz0]∧OwnS kd_api_Record M' vz0 r0 cz0
theorem f_law15_First_ok (M:IM) (res:(List T_api_Record)) (h:f_law15_First=some res):
 Tri Tryz.prog 12 #[] M [] (f_law15_First_post res):=by
 unfold f_law15_First at h
 refine Te Tryz.func12 Z Z ?_
 intro F ρ hρ
 refine Sr (qa Zs (Ns (qu (.agg #[(Iv 2),(Iv 1),(Iv 1),(Iv 0),(Iv 0),(Iv 0),(Iv 0),(Iv 0),(Iv 0),(Bv false),(Sv ⟨#[]⟩),(Sv ⟨#[]⟩),(Sv ⟨#[]⟩),(Sv ⟨#[97]⟩),Zs,Zs,Zs,Zs]) (Bl (cl:=[(Iv 2),(Iv 1),(Iv 1),(Iv 0),(Iv 0),(Iv 0),(Iv 0),(Iv 0),(Iv 0),(Bv false),(Sv ⟨#[]⟩),(Sv ⟨#[]⟩),(Sv ⟨#[]⟩),(Sv ⟨#[97]⟩),Zs,Zs,Zs,Zs]) ze45 fp45 (Pc (Iv 2) Z Z (Pc (Iv 1) Z Z (Pc (Iv 1) Z Z (Pc (Sv ⟨#[97]⟩) Z Z Pz)))) Z) (qu (.agg #[(Iv 4),(Iv 1),(Iv 1),(Iv 0),(Iv 0),(Iv 0),(Iv 0),(Iv 0),(Iv 0),(Bv false),(Sv ⟨#[]⟩),(Sv ⟨#[]⟩),(Sv ⟨#[]⟩),(Sv ⟨#[]⟩),Zs,Zs,Zs,Zs]) (Bl (cl:=[(Iv 4),(Iv 1),(Iv 1),(Iv 0),(Iv 0),(Iv 0),(Iv 0),(Iv 0),(Iv 0),(Bv false),(Sv ⟨#[]⟩),(Sv ⟨#[]⟩),(Sv ⟨#[]⟩),(Sv ⟨#[]⟩),Zs,Zs,Zs,Zs]) ze45 fp45 (Pc (Iv 4) Z Z (Pc (Iv 1) Z Z (Pc (Iv 1) Z Z Pz))) Z) (qu (.agg #[(Iv 2),(Iv 2),(Iv 1),(Iv 0),(Iv 0),(Iv 0),(Iv 0),(Iv 0),(Iv 0),(Bv false),(Sv ⟨#[]⟩),(Sv ⟨#[]⟩),(Sv ⟨#[]⟩),(Sv ⟨#[98]⟩),Zs,Zs,Zs,Zs]) (Bl (cl:=[(Iv 2),(Iv 2),(Iv 1),(Iv 0),(Iv 0),(Iv 0),(Iv 0),(Iv 0),(Iv 0),(Bv false),(Sv ⟨#[]⟩),(Sv ⟨#[]⟩),(Sv ⟨#[]⟩),(Sv ⟨#[98]⟩),Zs,Zs,Zs,Zs]) ze45 fp45 (Pc (Iv 2) Z Z (Pc (Iv 2) Z Z (Pc (Iv 1) Z Z (Pc (Sv ⟨#[98]⟩) Z Z Pz)))) Z) (qu (.agg #[(Iv 4),(Iv 2),(Iv 1),(Iv 0),(Iv 0),(Iv 0),(Iv 0),(Iv 0),(Iv 0),(Bv false),(Sv ⟨#[]⟩),(Sv ⟨#[]⟩),(Sv ⟨#[]⟩),(Sv ⟨#[]⟩),Zs,Zs,Zs,Zs]) (Bl (cl:=[(Iv 4),(Iv 2),(Iv 1),(Iv 0),(Iv 0),(Iv 0),(Iv 0),(Iv 0),(Iv 0),(Bv false),(Sv ⟨#[]⟩),(Sv ⟨#[]⟩),(Sv ⟨#[]⟩),(Sv ⟨#[]⟩),Zs,Zs,Zs,Zs]) ze45 fp45 (Pc (Iv 4) Z Z (Pc (Iv 2) Z Z (Pc (Iv 1) Z Z Pz))) Z) (qu (.agg #[(Iv 7),(Iv 0),(Iv 0),(Iv 1),(Iv 0),(Iv 0),(Iv 0),(Iv 0),(Iv 0),(Bv false),(Sv ⟨#[116]⟩),(Sv ⟨#[]⟩),(Sv ⟨#[]⟩),(Sv ⟨#[]⟩),Zs,Zs,Zs,Zs]) (Bl (cl:=[(Iv 7),(Iv 0),(Iv 0),(Iv 1),(Iv 0),(Iv 0),(Iv 0),(Iv 0),(Iv 0),(Bv false),(Sv ⟨#[116]⟩),(Sv ⟨#[]⟩),(Sv ⟨#[]⟩),(Sv ⟨#[]⟩),Zs,Zs,Zs,Zs]) ze45 fp45 (Pc (Iv 7) Z Z (Pc (Iv 1) Z Z (Pc (Sv ⟨#[116]⟩) Z Z Pz))) Z) (We (EO.buildSliceL (cl:=[(Iv 1),(Iv 2)]) Tryz.underlying43 iz3 Z (Pc (Iv 1) Z Z (Pc (Iv 2) Z Z Pz)) Z) Z ?_))))))))
 rintro _ _ _ - ⟨rfl,g21,rfl,rfl⟩
 have h23:OwnS (Kd.int .i64) M (.slice (some ⟨g21,0,none⟩) 2 2) [(1:Int),(2:Int)] [(g21, .cells #[(Iv 1),(Iv 2)] 3 (0,0))]:=OwnS.rows (css:=[[(Iv 1)],[(Iv 2)]]) (Rows.cons Z (Rows.cons Z Rows.nil)) Z Z
 refine We (EO.buildSliceL (cl:=[(Iv 1),(Iv 2)]) Tryz.underlying43 iz3 Z (Pc (Iv 1) Z Z (Pc (Iv 2) Z Z Pz)) Z) Z ?_
 rintro _ _ _ - ⟨rfl,g24,rfl,rfl⟩
 have h26:OwnS (Kd.int .i64) M (.slice (some ⟨g24,0,none⟩) 2 2) [(1:Int),(2:Int)] [(g24, .cells #[(Iv 1),(Iv 2)] 3 (0,0))]:=OwnS.rows (css:=[[(Iv 1)],[(Iv 2)]]) (Rows.cons Z (Rows.cons Z Rows.nil)) Z Z
 refine qu (.agg #[(Iv 8),(Iv 0),(Iv 0),(Iv 1),(Iv 0),(Iv 1),(Iv 0),(Iv 0),(Iv 0),(Bv false),(Sv ⟨#[]⟩),(Sv ⟨#[]⟩),(Sv ⟨#[]⟩),(Sv ⟨#[]⟩),(.slice (some ⟨g21,0,none⟩) 2 2),(.slice (some ⟨g24,0,none⟩) 2 2),Zs,Zs]) (Bl (cl:=[(Iv 8),(Iv 0),(Iv 0),(Iv 1),(Iv 0),(Iv 1),(Iv 0),(Iv 0),(Iv 0),(Bv false),(Sv ⟨#[]⟩),(Sv ⟨#[]⟩),(Sv ⟨#[]⟩),(Sv ⟨#[]⟩),(.slice (some ⟨g21,0,none⟩) 2 2),(.slice (some ⟨g24,0,none⟩) 2 2),Zs,Zs]) ze45 fp45 (Pc (Iv 8) Z Z (Pc (Iv 1) Z Z (Parts.cons ((congrArg Value.cells (show ev _ _=(.slice (some ⟨g21,0,none⟩) 2 2) from Z)).trans h23.cells) (Parts.cons ((congrArg Value.cells (show ev _ _=(.slice (some ⟨g24,0,none⟩) 2 2) from Z)).trans h26.cells) (Pc (Iv 1) Z Z Pz))))) Z) (WL.f1 (WL.know (fun _ hs=>h23.rs hs) (fun hf31=> ?_)))
 refine WL.freeze (fun hle30=> ?_)
 have h26:=h26.mono hle30
 refine WL.know (fun _ hs=>h26.rs hs) (fun hf36=> ?_)
 refine WL.freeze (fun hle35=> ?_)
 refine We (EO.buildSliceL (cl:=[(Iv 2),(Iv 1),(Iv 1),(Iv 0),(Iv 0),(Iv 0),(Iv 0),(Iv 0),(Iv 0),(Bv false),(Sv ⟨#[]⟩),(Sv ⟨#[]⟩),(Sv ⟨#[]⟩),(Sv ⟨#[97]⟩),Zs,Zs,Zs,Zs,(Iv 4),(Iv 1),(Iv 1),(Iv 0),(Iv 0),(Iv 0),(Iv 0),(Iv 0),(Iv 0),(Bv false),(Sv ⟨#[]⟩),(Sv ⟨#[]⟩),(Sv ⟨#[]⟩),(Sv ⟨#[]⟩),Zs,Zs,Zs,Zs,(Iv 2),(Iv 2),(Iv 1),(Iv 0),(Iv 0),(Iv 0),(Iv 0),(Iv 0),(Iv 0),(Bv false),(Sv ⟨#[]⟩),(Sv ⟨#[]⟩),(Sv ⟨#[]⟩),(Sv ⟨#[98]⟩),Zs,Zs,Zs,Zs,(Iv 4),(Iv 2),(Iv 1),(Iv 0),(Iv 0),(Iv 0),(Iv 0),(Iv 0),(Iv 0),(Bv false),(Sv ⟨#[]⟩),(Sv ⟨#[]⟩),(Sv ⟨#[]⟩),(Sv ⟨#[]⟩),Zs,Zs,Zs,Zs,(Iv 7),(Iv 0),(Iv 0),(Iv 1),(Iv 0),(Iv 0),(Iv 0),(Iv 0),(Iv 0),(Bv false),(Sv ⟨#[116]⟩),(Sv ⟨#[]⟩),(Sv ⟨#[]⟩),(Sv ⟨#[]⟩),Zs,Zs,Zs,Zs,(Iv 8),(Iv 0),(Iv 0),(Iv 1),(Iv 0),(Iv 1),(Iv 0),(Iv 0),(Iv 0),(Bv false),(Sv ⟨#[]⟩),(Sv ⟨#[]⟩),(Sv ⟨#[]⟩),(Sv ⟨#[]⟩),(.slice (some ⟨g21,0,none⟩) 2 2),(.slice (some ⟨g24,0,none⟩) 2 2),Zs,Zs]) Tryz.underlying22 iz45 Z (Pc (.agg #[(Iv 2),(Iv 1),(Iv 1),(Iv 0),(Iv 0),(Iv 0),(Iv 0),(Iv 0),(Iv 0),(Bv false),(Sv ⟨#[]⟩),(Sv ⟨#[]⟩),(Sv ⟨#[]⟩),(Sv ⟨#[97]⟩),Zs,Zs,Zs,Zs]) Z Z (Pc (.agg #[(Iv 4),(Iv 1),(Iv 1),(Iv 0),(Iv 0),(Iv 0),(Iv 0),(Iv 0),(Iv 0),(Bv false),(Sv ⟨#[]⟩),(Sv ⟨#[]⟩),(Sv ⟨#[]⟩),(Sv ⟨#[]⟩),Zs,Zs,Zs,Zs]) Z Z (Pc (.agg #[(Iv 2),(Iv 2),(Iv 1),(Iv 0),(Iv 0),(Iv 0),(Iv 0),(Iv 0),(Iv 0),(Bv false),(Sv ⟨#[]⟩),(Sv ⟨#[]⟩),(Sv ⟨#[]⟩),(Sv ⟨#[98]⟩),Zs,Zs,Zs,Zs]) Z Z (Pc (.agg #[(Iv 4),(Iv 2),(Iv 1),(Iv 0),(Iv 0),(Iv 0),(Iv 0),(Iv 0),(Iv 0),(Bv false),(Sv ⟨#[]⟩),(Sv ⟨#[]⟩),(Sv ⟨#[]⟩),(Sv ⟨#[]⟩),Zs,Zs,Zs,Zs]) Z Z (Pc (.agg #[(Iv 7),(Iv 0),(Iv 0),(Iv 1),(Iv 0),(Iv 0),(Iv 0),(Iv 0),(Iv 0),(Bv false),(Sv ⟨#[116]⟩),(Sv ⟨#[]⟩),(Sv ⟨#[]⟩),(Sv ⟨#[]⟩),Zs,Zs,Zs,Zs]) Z Z (Pc (.agg #[(Iv 8),(Iv 0),(Iv 0),(Iv 1),(Iv 0),(Iv 1),(Iv 0),(Iv 0),(Iv 0),(Bv false),(Sv ⟨#[]⟩),(Sv ⟨#[]⟩),(Sv ⟨#[]⟩),(Sv ⟨#[]⟩),(.slice (some ⟨g21,0,none⟩) 2 2),(.slice (some ⟨g24,0,none⟩) 2 2),Zs,Zs]) Z Z Pz)))))) Z) Z ?_
 rintro _ _ _ - ⟨rfl,g37,rfl,rfl⟩
 have hf31:=hf31.mono hle35
 have h39:OwnS kd_api_Record ((M.add [(g21, .cells #[(Iv 1),(Iv 2)] 3 (0,0))]).add [(g24, .cells #[(Iv 1),(Iv 2)] 3 (0,0))]) (.slice (some ⟨g37,0,none⟩) 6 6) [lit3_,lit5_,lit4_,lit6_,lit2_,lit1_] [(g37, .cells #[(Iv 2),(Iv 1),(Iv 1),(Iv 0),(Iv 0),(Iv 0),(Iv 0),(Iv 0),(Iv 0),(Bv false),(Sv ⟨#[]⟩),(Sv ⟨#[]⟩),(Sv ⟨#[]⟩),(Sv ⟨#[97]⟩),Zs,Zs,Zs,Zs,(Iv 4),(Iv 1),(Iv 1),(Iv 0),(Iv 0),(Iv 0),(Iv 0),(Iv 0),(Iv 0),(Bv false),(Sv ⟨#[]⟩),(Sv ⟨#[]⟩),(Sv ⟨#[]⟩),(Sv ⟨#[]⟩),Zs,Zs,Zs,Zs,(Iv 2),(Iv 2),(Iv 1),(Iv 0),(Iv 0),(Iv 0),(Iv 0),(Iv 0),(Iv 0),(Bv false),(Sv ⟨#[]⟩),(Sv ⟨#[]⟩),(Sv ⟨#[]⟩),(Sv ⟨#[98]⟩),Zs,Zs,Zs,Zs,(Iv 4),(Iv 2),(Iv 1),(Iv 0),(Iv 0),(Iv 0),(Iv 0),(Iv 0),(Iv 0),(Bv false),(Sv ⟨#[]⟩),(Sv ⟨#[]⟩),(Sv ⟨#[]⟩),(Sv ⟨#[]⟩),Zs,Zs,Zs,Zs,(Iv 7),(Iv 0),(Iv 0),(Iv 1),(Iv 0),(Iv 0),(Iv 0),(Iv 0),(Iv 0),(Bv false),(Sv ⟨#[116]⟩),(Sv ⟨#[]⟩),(Sv ⟨#[]⟩),(Sv ⟨#[]⟩),Zs,Zs,Zs,Zs,(Iv 8),(Iv 0),(Iv 0),(Iv 1),(Iv 0),(Iv 1),(Iv 0),(Iv 0),(Iv 0),(Bv false),(Sv ⟨#[]⟩),(Sv ⟨#[]⟩),(Sv ⟨#[]⟩),(Sv ⟨#[]⟩),(.slice (some ⟨g21,0,none⟩) 2 2),(.slice (some ⟨g24,0,none⟩) 2 2),Zs,Zs] 45 (0,0))]:=OwnS.rows (css:=[[(Iv 2),(Iv 1),(Iv 1),(Iv 0),(Iv 0),(Iv 0),(Iv 0),(Iv 0),(Iv 0),(Bv false),(Sv ⟨#[]⟩),(Sv ⟨#[]⟩),(Sv ⟨#[]⟩),(Sv ⟨#[97]⟩),Zs,Zs,Zs,Zs],[(Iv 4),(Iv 1),(Iv 1),(Iv 0),(Iv 0),(Iv 0),(Iv 0),(Iv 0),(Iv 0),(Bv false),(Sv ⟨#[]⟩),(Sv ⟨#[]⟩),(Sv ⟨#[]⟩),(Sv ⟨#[]⟩),Zs,Zs,Zs,Zs],[(Iv 2),(Iv 2),(Iv 1),(Iv 0),(Iv 0),(Iv 0),(Iv 0),(Iv 0),(Iv 0),(Bv false),(Sv ⟨#[]⟩),(Sv ⟨#[]⟩),(Sv ⟨#[]⟩),(Sv ⟨#[98]⟩),Zs,Zs,Zs,Zs],[(Iv 4),(Iv 2),(Iv 1),(Iv 0),(Iv 0),(Iv 0),(Iv 0),(Iv 0),(Iv 0),(Bv false),(Sv ⟨#[]⟩),(Sv ⟨#[]⟩),(Sv ⟨#[]⟩),(Sv ⟨#[]⟩),Zs,Zs,Zs,Zs],[(Iv 7),(Iv 0),(Iv 0),(Iv 1),(Iv 0),(Iv 0),(Iv 0),(Iv 0),(Iv 0),(Bv false),(Sv ⟨#[116]⟩),(Sv ⟨#[]⟩),(Sv ⟨#[]⟩),(Sv ⟨#[]⟩),Zs,Zs,Zs,Zs],[(Iv 8),(Iv 0),(Iv 0),(Iv 1),(Iv 0),(Iv 1),(Iv 0),(Iv 0),(Iv 0),(Bv false),(Sv ⟨#[]⟩),(Sv ⟨#[]⟩),(Sv ⟨#[]⟩),(Sv ⟨#[]⟩),(.slice (some ⟨g21,0,none⟩) 2 2),(.slice (some ⟨g24,0,none⟩) 2 2),Zs,Zs]]) (Rows.cons (kd_api_Record_mk (x:=lit3_) (RS.nil _ _) (RS.nil _ _) (RS.nil _ _) (RS.nil _ _)) (Rows.cons (kd_api_Record_mk (x:=lit5_) (RS.nil _ _) (RS.nil _ _) (RS.nil _ _) (RS.nil _ _)) (Rows.cons (kd_api_Record_mk (x:=lit4_) (RS.nil _ _) (RS.nil _ _) (RS.nil _ _) (RS.nil _ _)) (Rows.cons (kd_api_Record_mk (x:=lit6_) (RS.nil _ _) (RS.nil _ _) (RS.nil _ _) (RS.nil _ _)) (Rows.cons (kd_api_Record_mk (x:=lit2_) (RS.nil _ _) (RS.nil _ _) (RS.nil _ _) (RS.nil _ _)) (Rows.cons (kd_api_Record_mk (x:=lit1_) hf31 hf36 (RS.nil _ _) (RS.nil _ _)) Rows.nil)))))) Z Z
 exact qa (.slice (some ⟨g37,0,none⟩) 6 6) (Nt (Cr (Rf h [[(g37, .cells #[(Iv 2),(Iv 1),(Iv 1),(Iv 0),(Iv 0),(Iv 0),(Iv 0),(Iv 0),(Iv 0),(Bv false),(Sv ⟨#[]⟩),(Sv ⟨#[]⟩),(Sv ⟨#[]⟩),(Sv ⟨#[97]⟩),Zs,Zs,Zs,Zs,(Iv 4),(Iv 1),(Iv 1),(Iv 0),(Iv 0),(Iv 0),(Iv 0),(Iv 0),(Iv 0),(Bv false),(Sv ⟨#[]⟩),(Sv ⟨#[]⟩),(Sv ⟨#[]⟩),(Sv ⟨#[]⟩),Zs,Zs,Zs,Zs,(Iv 2),(Iv 2),(Iv 1),(Iv 0),(Iv 0),(Iv 0),(Iv 0),(Iv 0),(Iv 0),(Bv false),(Sv ⟨#[]⟩),(Sv ⟨#[]⟩),(Sv ⟨#[]⟩),(Sv ⟨#[98]⟩),Zs,Zs,Zs,Zs,(Iv 4),(Iv 2),(Iv 1),(Iv 0),(Iv 0),(Iv 0),(Iv 0),(Iv 0),(Iv 0),(Bv false),(Sv ⟨#[]⟩),(Sv ⟨#[]⟩),(Sv ⟨#[]⟩),(Sv ⟨#[]⟩),Zs,Zs,Zs,Zs,(Iv 7),(Iv 0),(Iv 0),(Iv 1),(Iv 0),(Iv 0),(Iv 0),(Iv 0),(Iv 0),(Bv false),(Sv ⟨#[116]⟩),(Sv ⟨#[]⟩),(Sv ⟨#[]⟩),(Sv ⟨#[]⟩),Zs,Zs,Zs,Zs,(Iv 8),(Iv 0),(Iv 0),(Iv 1),(Iv 0),(Iv 1),(Iv 0),(Iv 0),(Iv 0),(Bv false),(Sv ⟨#[]⟩),(Sv ⟨#[]⟩),(Sv ⟨#[]⟩),(Sv ⟨#[]⟩),(.slice (some ⟨g21,0,none⟩) 2 2),(.slice (some ⟨g24,0,none⟩) 2 2),Zs,Zs] 45 (0,0))]] Z (Rs Z Z) (hle30.trans hle35) ⟨(.slice (some ⟨g37,0,none⟩) 6 6),[(g37, .cells #[(Iv 2),(Iv 1),(Iv 1),(Iv 0),(Iv 0),(Iv 0),(Iv 0),(Iv 0),(Iv 0),(Bv false),(Sv ⟨#[]⟩),(Sv ⟨#[]⟩),(Sv ⟨#[]⟩),(Sv ⟨#[97]⟩),Zs,Zs,Zs,Zs,(Iv 4),(Iv 1),(Iv 1),(Iv 0),(Iv 0),(Iv 0),(Iv 0),(Iv 0),(Iv 0),(Bv false),(Sv ⟨#[]⟩),(Sv ⟨#[]⟩),(Sv ⟨#[]⟩),(Sv ⟨#[]⟩),Zs,Zs,Zs,Zs,(Iv 2),(Iv 2),(Iv 1),(Iv 0),(Iv 0),(Iv 0),(Iv 0),(Iv 0),(Iv 0),(Bv false),(Sv ⟨#[]⟩),(Sv ⟨#[]⟩),(Sv ⟨#[]⟩),(Sv ⟨#[98]⟩),Zs,Zs,Zs,Zs,(Iv 4),(Iv 2),(Iv 1),(Iv 0),(Iv 0),(Iv 0),(Iv 0),(Iv 0),(Iv 0),(Bv false),(Sv ⟨#[]⟩),(Sv ⟨#[]⟩),(Sv ⟨#[]⟩),(Sv ⟨#[]⟩),Zs,Zs,Zs,Zs,(Iv 7),(Iv 0),(Iv 0),(Iv 1),(Iv 0),(Iv 0),(Iv 0),(Iv 0),(Iv 0),(Bv false),(Sv ⟨#[116]⟩),(Sv ⟨#[]⟩),(Sv ⟨#[]⟩),(Sv ⟨#[]⟩),Zs,Zs,Zs,Zs,(Iv 8),(Iv 0),(Iv 0),(Iv 1),(Iv 0),(Iv 1),(Iv 0),(Iv 0),(Iv 0),(Bv false),(Sv ⟨#[]⟩),(Sv ⟨#[]⟩),(Sv ⟨#[]⟩),(Sv ⟨#[]⟩),(.slice (some ⟨g21,0,none⟩) 2 2),(.slice (some ⟨g24,0,none⟩) 2 2),Zs,Zs] 45 (0,0))],Z,Z,h39⟩)))
noncomputable def f_ref05_has_l0 (a1:Int) (x21:ByteArray) (s_:Int):Option (Int⊕(Unit⊕Unit)):=
 match s_ with
 |x38=>
 (if(decide (x38<(x21.size:Int)))=true then(grd (0≤x38∧x38<x21.size) (if(decide ((btAt x21 x38)=a1))=true then(some (Sum.inr (Sum.inr ())))else(some (Sum.inl (IntKind.i64.wrap (x38+(1:Int)))))))else(some (Sum.inr (Sum.inl ()))))
noncomputable def f_ref05_has (a0:Int) (a1:Int):Option Bool:=
 (((if(decide (a0=(2:Int)))=true then(some (⟨#[98,101,114]⟩:ByteArray))else(((if(decide (a0=(3:Int)))=true then(some (decide (a0=(3:Int))))else(if(decide (a0=(4:Int)))=true then(some (decide (a0=(4:Int))))else(if(decide (a0=(5:Int)))=true then(some (decide (a0=(5:Int))))else(some (decide (a0=(6:Int))))))):Option Bool).bind fun x24=>(if x24=true then(some (⟨#[98,101]⟩:ByteArray))else(if(decide (a0=(7:Int)))=true then(some (⟨#[116,110]⟩:ByteArray))else(if(decide (a0=(8:Int)))=true then(some (⟨#[116,112,108,105,109]⟩:ByteArray))else(if(decide (a0=(9:Int)))=true then(some (⟨#[116,101,112,108,105,109,120]⟩:ByteArray))else(if(decide (a0=(10:Int)))=true then(some (⟨#[116,107,118,102]⟩:ByteArray))else(if(decide (a0=(11:Int)))=true then(some (⟨#[116]⟩:ByteArray))else(if(decide (a0=(12:Int)))=true then(some (⟨#[97]⟩:ByteArray))else(some (⟨#[]⟩:ByteArray))))))))))):Option ByteArray).bind fun x21=>((((iter (f_ref05_has_l0 a1 x21) (0:Int)).bind (Sum.elim (fun _=>(some (Sum.inl ()))) (fun _=>(((some true)).bind fun r=>some (Sum.inr r))))):Option (Unit⊕Bool)).bind (Sum.elim (fun _=>(some false)) some)))
def f_ref05_has_post (a0:Int) (a1:Int):Bool→Value→IM→HL→Prop:=
 fun(r0:Bool) (v:Value) (M':IM) (H':HL)=>(.bool r0)=v∧H'=[]
theorem f_ref05_has_ok (a0:Int) (a1:Int) (M:IM) (res:Bool) (h:f_ref05_has a0 a1=some res):
 Tri Tryz.prog 60 #[(Iv a0),(Yv a1)] M [] (f_ref05_has_post a0 a1 res):=by
 unfold f_ref05_has at h
 refine Te Tryz.func60 Z Z ?_
 intro F ρ hρ
 refine Sr (qa (Bv false) (Ns (qa (Sv ⟨#[]⟩) (Nt ?_))))
 obtain ⟨x21,hj22,h⟩:=bnd h
 refine Jf (fun(x21:ByteArray) ρ' M' H'=>M.le M'∧F=H'∧ρ' 1=(Yv a1)∧ρ' 5=(Sv x21)) x21 ?_ ?_
 have h:=hj22
 refine Sr (qM (Iv a0) (hρ 0) (Nt (Bk (Sr (qu (Bv (decide (a0=2))) (PO.eql Z Z) (qa (Bv (decide (a0=2))) (Nt (Ch h Z (fun hb23 h=> ?_) (fun hb23 h=> ?_)))))))))
 refine Cg (qa (Sv ⟨#[98,101,114]⟩) (Wz (Bn ?_)))
 obtain rfl:=oi h
 exact Tj ⟨lr,Z,(hρ 1),Z⟩
 obtain ⟨x24,hj25,h⟩:=bnd h
 refine Jf (fun(x24:Bool) ρ' M' H'=>M.le M'∧F=H'∧ρ' 1=(Yv a1)∧ρ' 5=(Sv ⟨#[]⟩)∧ρ' 7=(Iv a0)∧ρ' 10=(Bv x24)) x24 ?_ ?_
 have h:=hj25
 refine Sr (qu (Bv (decide (a0=3))) (PO.eql Z Z) (qa (Bv (decide (a0=3))) (Nt (Ch h Z (fun hb26 h=> ?_) (fun hb26 h=> ?_)))))
 refine Ck ?_
 obtain rfl:=oi h
 exact Tj ⟨lr,Z,(hρ 1),Z,Z,Z⟩
 refine Sr (qu (Bv (decide (a0=4))) (PO.eql Z Z) (qa (Bv (decide (a0=4))) (Nt (Ch h Z (fun hb27 h=> ?_) (fun hb27 h=> ?_)))))
 refine Ck ?_
 obtain rfl:=oi h
 exact Tj ⟨lr,Z,(hρ 1),Z,Z,Z⟩
 refine Sr (qu (Bv (decide (a0=5))) (PO.eql Z Z) (qa (Bv (decide (a0=5))) (Nt (Ch h Z (fun hb28 h=> ?_) (fun hb28 h=> ?_)))))
 refine Ck ?_
 obtain rfl:=oi h
 exact Tj ⟨lr,Z,(hρ 1),Z,Z,Z⟩
 refine Cg (qu (Bv (decide (a0=6))) (PO.eql Z Z) (qa (Bv (decide (a0=6))) (Wz ?_)))
 obtain rfl:=oi h
 exact Tj ⟨lr,Z,(hρ 1),Z,Z,Z⟩
 rintro ρ25 M25 H25 ⟨hle25,rfl,hs25_1,hs25_5,hs25_7,hs25_10⟩
 refine Ch h hs25_10 (fun hb29 h=> ?_) (fun hb29 h=> ?_)
 refine Cg (qa (Sv ⟨#[98,101]⟩) (Wz (Bn ?_)))
 obtain rfl:=oi h
 exact Tj ⟨hle25,Z,hs25_1,Z⟩
 refine Sr (qu (Bv (decide (a0=7))) (PO.eql hs25_7 Z) (qa (Bv (decide (a0=7))) (Nt (Ch h Z (fun hb30 h=> ?_) (fun hb30 h=> ?_)))))
 refine Cg (qa (Sv ⟨#[116,110]⟩) (Wz (Bn ?_)))
 obtain rfl:=oi h
 exact Tj ⟨hle25,Z,hs25_1,Z⟩
 refine Sr (qu (Bv (decide (a0=8))) (PO.eql hs25_7 Z) (qa (Bv (decide (a0=8))) (Nt (Ch h Z (fun hb31 h=> ?_) (fun hb31 h=> ?_)))))
 refine Cg (qa (Sv ⟨#[116,112,108,105,109]⟩) (Wz (Bn ?_)))
 obtain rfl:=oi h
 exact Tj ⟨hle25,Z,hs25_1,Z⟩
 refine Sr (qu (Bv (decide (a0=9))) (PO.eql hs25_7 Z) (qa (Bv (decide (a0=9))) (Nt (Ch h Z (fun hb32 h=> ?_) (fun hb32 h=> ?_)))))
 refine Cg (qa (Sv ⟨#[116,101,112,108,105,109,120]⟩) (Wz (Bn ?_)))
 obtain rfl:=oi h
 exact Tj ⟨hle25,Z,hs25_1,Z⟩
 refine Sr (qu (Bv (decide (a0=10))) (PO.eql hs25_7 Z) (qa (Bv (decide (a0=10))) (Nt (Ch h Z (fun hb33 h=> ?_) (fun hb33 h=> ?_)))))
 refine Cg (qa (Sv ⟨#[116,107,118,102]⟩) (Wz (Bn ?_)))
 obtain rfl:=oi h
 exact Tj ⟨hle25,Z,hs25_1,Z⟩
 refine Sr (qu (Bv (decide (a0=11))) (PO.eql hs25_7 Z) (qa (Bv (decide (a0=11))) (Nt (Ch h Z (fun hb34 h=> ?_) (fun hb34 h=> ?_)))))
 refine Cg (qa (Sv ⟨#[116]⟩) (Wz (Bn ?_)))
 obtain rfl:=oi h
 exact Tj ⟨hle25,Z,hs25_1,Z⟩
 refine Sr (qu (Bv (decide (a0=12))) (PO.eql hs25_7 Z) (qa (Bv (decide (a0=12))) (Nt (Ch h Z (fun hb35 h=> ?_) (fun hb35 h=> ?_)))))
 refine Cg (qa (Sv ⟨#[97]⟩) (Wz (Bn ?_)))
 obtain rfl:=oi h
 exact Tj ⟨hle25,Z,hs25_1,Z⟩
 refine Ck (Bn ?_)
 obtain rfl:=oi h
 exact Tj ⟨hle25,Z,hs25_1,hs25_5⟩
 rintro ρ22 M22 H22 ⟨hle22,rfl,hs22_1,hs22_5⟩
 obtain ⟨j36,hj36,h⟩:=bnd h
 refine WC.joinE (fun(_:Unit) ρ' M' H'=>M22.le M'∧F=H') j36 ?_ ?_
 have h336:=h
 have h:=hj36
 refine Sr (qa (Iv 0) (Nt (Bk ?_)))
 obtain ⟨e37,he37,hK37⟩:=bnd h
 clear h
 refine WC.loop he37 (fun(x38:Int) ρ' M' H'=>M22.le M'∧F=H'∧ρ' 1=(Yv a1)∧ρ' 5=(Sv x21)∧ρ' 6=(Iv x38)) ?_ ?_
 exact⟨lr,Z,hs22_1,hs22_5,Z⟩
 rintro x38 o37 ρ37 M37 H37 h ⟨hle37,rfl,hs37_1,hs37_5,hs37_6⟩
 unfold f_ref05_has_l0 at h
 refine Cs (Sr (qM (Iv x38) hs37_6 (qM (Sv x21) hs37_5 (qu (Iv (x21.size:Int)) (PO.lenStr Tryz.underlying9 Z) (qu (Bv (decide (x38<(x21.size:Int)))) (PO.lss Z Z) (Nt (Ch h Z (fun hb39 h=> ?_) (fun hb39 h=> ?_))))))))
 refine Ck (Tc (Cs (Bk (Sr (qM (Sv x21) hs37_5 (qM (Iv x38) hs37_6 ?_))))))
 obtain ⟨hg40,h⟩:=grd_i h
 refine qu (Yv (btAt x21 x38)) (PO.indexStr Tryz.underlying9 Z Z hg40.1 (strAt hg40)) (qM (Yv a1) hs37_1 (qu (Bv (decide ((btAt x21 x38)=a1))) (PO.eql Z Z) (Nt (Ch h Z (fun hb42 h=> ?_) (fun hb42 h=> ?_)))))
 refine Sr (qa (Bv true) (Nt (Cr (Br (Tr (WQ.leaveR (Sum.inr ()) (oi h).symm (fun heq37=> ?_)))))))
 subst heq37
 have h:=(elimR hK37)
 refine Br (Tr ?_)
 have h:=KK.early h h336
 exact Rf h [] Z (Rs Z Z) (hle22.trans hle37) ⟨Z,Z⟩
 exact Ck (Bn (Tc (Cg (qM (Iv x38) hs37_6 (qu (Iv (IntKind.i64.wrap (x38+1))) (PO.add Z Z) (qa (Iv (IntKind.i64.wrap (x38+1))) (Wz (WQ.again (IntKind.i64.wrap (x38+1)) (oi h).symm ⟨hle37,Z,hs37_1,hs37_5,Z⟩))))))))
 refine WC.exit (WQ.thenE (WQ.leaveE (Sum.inl ()) (oi h).symm (fun heq37=> ?_)))
 subst heq37
 have h:=elimL hK37
 exact WQ.blockH (WQ.thenFE h ⟨hle37,Z⟩)
 rintro _ ρ36 M36 H36 rfl ⟨hle36,rfl⟩
 have h:=(Sum.elim_inl _ _ _).symm.trans h
 exact Sr (qa (Bv false) (Nt (Cr (Rf h [] Z (Rs Z Z) (hle22.trans hle36) ⟨Z,Z⟩))))
noncomputable def f_ref05_num (a0:Int) (a1:Bool) (a2:Int) (a3:Int):Option Bool:=
 (if a1=true then(((if(decide (a2≤a0))=true then(some (decide (a0≤a3)))else(some false)):Option Bool).bind fun x22=>(some x22))else(some (decide (a0=(0:Int)))))
def f_ref05_num_post (a0:Int) (a1:Bool) (a2:Int) (a3:Int):Bool→Value→IM→HL→Prop:=
 fun(r0:Bool) (v:Value) (M':IM) (H':HL)=>(.bool r0)=v∧H'=[]
theorem f_ref05_num_ok (a0:Int) (a1:Bool) (a2:Int) (a3:Int) (M:IM) (res:Bool) (h:f_ref05_num a0 a1 a2 a3=some res):
 Tri Tryz.prog 81 #[(Iv a0),(Bv a1),(Iv a2),(Iv a3)] M [] (f_ref05_num_post a0 a1 a2 a3 res):=by
 unfold f_ref05_num at h
 refine Te Tryz.func81 Z Z ?_
 intro F ρ hρ
 refine Sr (qa (Bv false) (Nt (Cs (Sr (qM (Bv a1) (hρ 1) (Nt (Ch h Z (fun hb21 h=> ?_) (fun hb21 h=> ?_))))))))
 obtain ⟨x22,hj23,h⟩:=bnd h
 refine Jf (fun(x22:Bool) ρ' M' H'=>M.le M'∧F=H'∧ρ' 8=(Bv x22)) x22 ?_ ?_
 have h:=hj23
 refine Cg (qM (Iv a0) (hρ 0) (qM (Iv a2) (hρ 2) (qu (Bv (decide (a2≤a0))) (PO.geq Z Z) (qm (Bv (decide (a2≤a0))) ?_))))
 rcases Bi h with⟨hb24,h⟩ |⟨hb24,h⟩
 refine On 13 Z Z hb24 (qM (Iv a0) (hρ 0) (On 13 Z Z hb24 (qM (Iv a3) (hρ 3) (qo 13 hb24 (Bv (decide (a0≤a3))) (PO.leq Z Z) (qu (Bv (decide (a0≤a3))) (Pt Z hb24 Z) (qa (Bv (decide (a0≤a3))) (Wz ?_)))))))
 obtain rfl:=oi h
 exact Tj ⟨lr,Z,Z⟩
 iterate 3 refine Of 13 Z Z hb24 Z ?_
 refine qu (Bv false) (Pf Z hb24 Z) (qa (Bv false) (Wz ?_))
 obtain rfl:=oi h
 exact Tj ⟨lr,Z,Z⟩
 rintro ρ23 M23 H23 ⟨hle23,rfl,hs23_8⟩
 exact Cr (Tr (Rf h [] Z (Rs Z hs23_8) hle23 ⟨Z,Z⟩))
 exact Ck (Tc (Sr (qM (Iv a0) (hρ 0) (qu (Bv (decide (a0=0))) (PO.eql Z Z) (qa (Bv (decide (a0=0))) (Nt (Cr (Rf h [] Z (Rs Z Z) lr ⟨Z,Z⟩))))))))
noncomputable def f_ref05_numbers (a0:T_api_Record):Option T_ref05_Wrong:=
 (((if(decide (a0.Kind=(10:Int)))=true then(some (0:Int))else(some (1:Int))):Option Int).bind fun x23=>((f_ref05_has a0.Kind (98:Int)).bind fun r26=>((f_ref05_num a0.Broker r26 (1:Int) (64:Int)).bind fun r31=>(if(!r31)=true then(some (⟨(⟨#[98,114,111,107,101,114]⟩:ByteArray),a0.Broker,(2:Int)⟩:T_ref05_Wrong))else((f_ref05_has a0.Kind (101:Int)).bind fun r37=>((f_ref05_num a0.Epoch r37 (0:Int) (1073741824:Int)).bind fun r42=>(if(!r42)=true then(some (⟨(⟨#[101,112,111,99,104]⟩:ByteArray),a0.Epoch,(2:Int)⟩:T_ref05_Wrong))else((f_ref05_has a0.Kind (116:Int)).bind fun r48=>((f_ref05_num a0.Topic r48 x23 (1073741824:Int)).bind fun r53=>(if(!r53)=true then(some (⟨(⟨#[116,111,112,105,99]⟩:ByteArray),a0.Topic,(2:Int)⟩:T_ref05_Wrong))else((f_ref05_has a0.Kind (112:Int)).bind fun r59=>((f_ref05_num a0.Part r59 (0:Int) (255:Int)).bind fun r64=>(if(!r64)=true then(some (⟨(⟨#[112,97,114,116]⟩:ByteArray),a0.Part,(2:Int)⟩:T_ref05_Wrong))else((f_ref05_has a0.Kind (108:Int)).bind fun r70=>((f_ref05_num a0.Leader r70 (0:Int) (64:Int)).bind fun r75=>(if(!r75)=true then(some (⟨(⟨#[108,101,97,100,101,114]⟩:ByteArray),a0.Leader,(2:Int)⟩:T_ref05_Wrong))else((((f_ref05_has a0.Kind (97:Int)).bind fun r83=>((f_ref05_num a0.Client r83 (1:Int) (1073741824:Int)).bind fun r88=>(if(!r88)=true then(some true)else((f_ref05_has a0.Kind (97:Int)).bind fun r94=>((f_ref05_num a0.Serial r94 (1:Int) (1073741824:Int)).bind fun r99=>(if(!r99)=true then(some true)else((f_ref05_has a0.Kind (97:Int)).bind fun r105=>((f_ref05_num a0.Code r105 (0:Int) (21:Int)).bind fun r110=>(some (!r110)))))))))):Option Bool).bind fun x81=>(if x81=true then(some (⟨(⟨#[97,115,107,101,114]⟩:ByteArray),a0.Client,(2:Int)⟩:T_ref05_Wrong))else(some (⟨(⟨#[]⟩:ByteArray),(0:Int),(0:Int)⟩:T_ref05_Wrong))))))))))))))))))))
def f_ref05_numbers_post (a0:T_api_Record) (v0_14 v0_15 v0_16 v0_17:Value):T_ref05_Wrong→Value→IM→HL→Prop:=
 fun(r0:T_ref05_Wrong) (v:Value) (M':IM) (H':HL)=>(.agg #[(.string r0.Op),(.int .i64 r0.At),(.int .i64 r0.Code)])=v∧H'=[]
theorem f_ref05_numbers_ok (a0:T_api_Record) (M:IM) (v0_14 v0_15 v0_16 v0_17:Value) (h0_14:RS (Kd.int .i64) M v0_14 a0.Ids) (h0_15:RS (Kd.int .i64) M v0_15 a0.Isr) (h0_16:RS (Kd.int .i64) M v0_16 a0.Add) (h0_17:RS (Kd.int .i64) M v0_17 a0.Drop) (res:T_ref05_Wrong) (h:f_ref05_numbers a0=some res):
 Tri Tryz.prog 59 #[(a45_ a0 v0_14 v0_15 v0_16 v0_17)] M [] (f_ref05_numbers_post a0 v0_14 v0_15 v0_16 v0_17 res):=by
 unfold f_ref05_numbers at h
 refine Te Tryz.func59 Z Z ?_
 intro F ρ hρ
 refine Sr (We (EO.box (cs:=(l45 a0 v0_14 v0_15 v0_16 v0_17).toArray) (congrArg Value.cells (asE (a45_ a0 v0_14 v0_15 v0_16 v0_17) (hρ 0)))) Z ?_)
 rintro _ _ _ - ⟨rfl,g21,rfl,rfl⟩
 refine We (Al ze89 Z) Z ?_
 rintro _ _ _ - ⟨rfl,g22,rfl,rfl⟩
 refine Ns (qu (pt g21 0) (Fa fo45_0 Z Z) (qu (Iv a0.Kind) (Lb 1 pl3 Z Z Z) (qa (Iv a0.Kind) (Ns (qa (Iv 1073741824) (Ns (qa (Iv 1) (Nt ?_))))))))
 obtain ⟨x23,hj24,h⟩:=bnd h
 refine Jf (fun(x23:Int) ρ' M' H'=>M.le M'∧[(g22, .cells #[(Sv ⟨#[]⟩),(Iv 0),(Iv 0)] 89 (0,0))]::[(g21, .cells (l45 a0 v0_14 v0_15 v0_16 v0_17).toArray 45 (0,0))]::F=H'∧ρ' 1=(pt g21 0)∧ρ' 2=(pt g22 0)∧ρ' 3=(Iv a0.Kind)∧ρ' 4=(Iv 1073741824)∧ρ' 5=(Iv x23)) x23 ?_ ?_
 have h:=hj24
 refine Sr (qm (Iv a0.Kind) (qu (Bv (decide (a0.Kind=10))) (PO.eql Z Z) (Nt (Ch h Z (fun hb25 h=> ?_) (fun hb25 h=> ?_)))))
 refine Cg (qa (Iv 0) (Wz ?_))
 obtain rfl:=oi h
 exact Tj ⟨lr,Z,Z,Z,Z,Z,Z⟩
 refine Ck ?_
 obtain rfl:=oi h
 exact Tj ⟨lr,Z,Z,Z,Z,Z,Z⟩
 rintro ρ24 M24 H24 ⟨hle24,rfl,hs24_1,hs24_2,hs24_3,hs24_4,hs24_5⟩
 refine Cs (Cs (WC.draw [0,1,0,4,15,31] (.pure 0 (.pure 1 (.pure 2 (.alt 3 (.alt 4 (.pure 5 .done) .none) .none)))) mixed (by kernel_rfl) (qt (pt g21 1) Z (Fa fo45_1 hs24_1 Z) (qt (Iv a0.Broker) Z (Lb 1 pl3 Z Z Z) (qt (Iv a0.Kind) Z (Mv hs24_3) ?_)))))
 obtain ⟨r26,hr27,h⟩:=bnd h
 refine Ta Z (Ca co60 (f_ref05_has_ok a0.Kind (98:Int) _ r26 hr27) (args2 Z Z)) Z ?_ ?_
 rintro _ M28 _ hle29 ⟨_,⟨rfl,rfl⟩,rfl⟩
 have L29:=hle24.trans hle29
 refine⟨(Sk 1 Z (Ss Z (Lb 1 pl3 Z Z Z) Z (Ss Z (Fa fo45_1 hs24_1 Z) Z trivial))), ?_⟩
 refine WT.a0 ?_
 obtain ⟨r31,hr32,h⟩:=bnd h
 refine Ta Z (Ca co81 (f_ref05_num_ok a0.Broker r26 (1:Int) (64:Int) _ r31 hr32) (args4 Z Z Z Z)) Z ?_ ?_
 rintro _ M33 _ hle34 ⟨_,⟨rfl,rfl⟩,rfl⟩
 have L34:=L29.trans hle34
 refine⟨(Sl Z), ?_⟩
 refine WT.a0 (qt (Bv (!r31)) Z (PO.not Z) (Ti (Tc (Ch h Z (fun hb36 h=> ?_) (fun hb36 h=> ?_)))))
 refine Sr (qu (pt g21 1) (Fa fo45_1 hs24_1 Z) (qu (Iv a0.Broker) (Lb 1 pl3 Z Z Z) (qu (.agg #[(Sv ⟨#[98,114,111,107,101,114]⟩),(Iv a0.Broker),(Iv 2)]) (Bl (cl:=[(Sv ⟨#[98,114,111,107,101,114]⟩),(Iv a0.Broker),(Iv 2)]) ze89 fp89 (Pc (Sv ⟨#[98,114,111,107,101,114]⟩) Z Z (Pc (Iv a0.Broker) Z Z (Pc (Iv 2) Z Z Pz))) Z) (We (Sg (v:=(.agg #[(Sv ⟨#[98,114,111,107,101,114]⟩),(Iv a0.Broker),(Iv 2)])) (vl:=[(Sv ⟨#[98,114,111,107,101,114]⟩),(Iv a0.Broker),(Iv 2)]) (arr':=[(Sv ⟨#[98,114,111,107,101,114]⟩),(Iv a0.Broker),(Iv 2)]) Z sz89 hs24_2 Z (onb Z) Z Z Z) Z ?_))))
 rintro _ _ _ - ⟨rfl,rfl⟩
 exact Nt (Cr (Tr (Qa (Dr (Rd h [] (fun _ hs=>hs.drop) (resultsL1 Z (Rc (cs:=[(Sv ⟨#[98,114,111,107,101,114]⟩),(Iv a0.Broker),(Iv 2)]) 0 ag89 sz89 hs24_2 Z Z)) L34 ⟨Z,Z⟩)))))
 refine Ck (Tc (Cs (Cs (WC.draw [0,1,0,4,0,31,63] (.pure 0 (.pure 1 (.pure 2 (.pure 4 (.alt 3 (.alt 5 (.pure 6 .done) .none) .none))))) mixed (by kernel_rfl) (qt (pt g21 2) Z (Fa fo45_2 hs24_1 Z) (qt (Iv a0.Epoch) Z (Lb 1 pl3 Z Z Z) (qt (Iv a0.Kind) Z (Mv hs24_3) (qt (Iv 1073741824) Z (Mv hs24_4) ?_))))))))
 obtain ⟨r37,hr38,h⟩:=bnd h
 refine Ta Z (Ca co60 (f_ref05_has_ok a0.Kind (101:Int) _ r37 hr38) (args2 Z Z)) Z ?_ ?_
 rintro _ M39 _ hle40 ⟨_,⟨rfl,rfl⟩,rfl⟩
 have L40:=L34.trans hle40
 refine⟨(Ss Z (Mv hs24_4) Z (Sk 1 Z (Ss Z (Lb 1 pl3 Z Z Z) Z (Ss Z (Fa fo45_2 hs24_1 Z) Z trivial)))), ?_⟩
 refine WT.a0 ?_
 obtain ⟨r42,hr43,h⟩:=bnd h
 refine Ta Z (Ca co81 (f_ref05_num_ok a0.Epoch r37 (0:Int) (1073741824:Int) _ r42 hr43) (args4 Z Z Z Z)) Z ?_ ?_
 rintro _ M44 _ hle45 ⟨_,⟨rfl,rfl⟩,rfl⟩
 have L45:=L40.trans hle45
 refine⟨(Sl Z), ?_⟩
 refine WT.a0 (qt (Bv (!r42)) Z (PO.not Z) (Ti (Tc (Ch h Z (fun hb47 h=> ?_) (fun hb47 h=> ?_)))))
 refine Sr (qu (pt g21 2) (Fa fo45_2 hs24_1 Z) (qu (Iv a0.Epoch) (Lb 1 pl3 Z Z Z) (qu (.agg #[(Sv ⟨#[101,112,111,99,104]⟩),(Iv a0.Epoch),(Iv 2)]) (Bl (cl:=[(Sv ⟨#[101,112,111,99,104]⟩),(Iv a0.Epoch),(Iv 2)]) ze89 fp89 (Pc (Sv ⟨#[101,112,111,99,104]⟩) Z Z (Pc (Iv a0.Epoch) Z Z (Pc (Iv 2) Z Z Pz))) Z) (We (Sg (v:=(.agg #[(Sv ⟨#[101,112,111,99,104]⟩),(Iv a0.Epoch),(Iv 2)])) (vl:=[(Sv ⟨#[101,112,111,99,104]⟩),(Iv a0.Epoch),(Iv 2)]) (arr':=[(Sv ⟨#[101,112,111,99,104]⟩),(Iv a0.Epoch),(Iv 2)]) Z sz89 hs24_2 Z (onb Z) Z Z Z) Z ?_))))
 rintro _ _ _ - ⟨rfl,rfl⟩
 exact Nt (Cr (Tr (Qa (Dr (Rd h [] (fun _ hs=>hs.drop) (resultsL1 Z (Rc (cs:=[(Sv ⟨#[101,112,111,99,104]⟩),(Iv a0.Epoch),(Iv 2)]) 0 ag89 sz89 hs24_2 Z Z)) L45 ⟨Z,Z⟩)))))
 refine Ck (Tc (Cs (Cs (WC.draw [0,1,0,4,0,0,63,127] (.pure 0 (.pure 1 (.pure 2 (.pure 4 (.pure 5 (.alt 3 (.alt 6 (.pure 7 .done) .none) .none)))))) mixed (by kernel_rfl) (qt (pt g21 3) Z (Fa fo45_3 hs24_1 Z) (qt (Iv a0.Topic) Z (Lb 1 pl3 Z Z Z) (qt (Iv a0.Kind) Z (Mv hs24_3) (qt (Iv x23) Z (Mv hs24_5) (qt (Iv 1073741824) Z (Mv hs24_4) ?_)))))))))
 obtain ⟨r48,hr49,h⟩:=bnd h
 refine Ta Z (Ca co60 (f_ref05_has_ok a0.Kind (116:Int) _ r48 hr49) (args2 Z Z)) Z ?_ ?_
 rintro _ M50 _ hle51 ⟨_,⟨rfl,rfl⟩,rfl⟩
 have L51:=L45.trans hle51
 refine⟨(Ss Z (Mv hs24_4) Z (Ss Z (Mv hs24_5) Z (Sk 1 Z (Ss Z (Lb 1 pl3 Z Z Z) Z (Ss Z (Fa fo45_3 hs24_1 Z) Z trivial))))), ?_⟩
 refine WT.a0 ?_
 obtain ⟨r53,hr54,h⟩:=bnd h
 refine Ta Z (Ca co81 (f_ref05_num_ok a0.Topic r48 x23 (1073741824:Int) _ r53 hr54) (args4 Z Z Z Z)) Z ?_ ?_
 rintro _ M55 _ hle56 ⟨_,⟨rfl,rfl⟩,rfl⟩
 have L56:=L51.trans hle56
 refine⟨(Sl Z), ?_⟩
 refine WT.a0 (qt (Bv (!r53)) Z (PO.not Z) (Ti (Tc (Ch h Z (fun hb58 h=> ?_) (fun hb58 h=> ?_)))))
 refine Sr (qu (pt g21 3) (Fa fo45_3 hs24_1 Z) (qu (Iv a0.Topic) (Lb 1 pl3 Z Z Z) (qu (.agg #[(Sv ⟨#[116,111,112,105,99]⟩),(Iv a0.Topic),(Iv 2)]) (Bl (cl:=[(Sv ⟨#[116,111,112,105,99]⟩),(Iv a0.Topic),(Iv 2)]) ze89 fp89 (Pc (Sv ⟨#[116,111,112,105,99]⟩) Z Z (Pc (Iv a0.Topic) Z Z (Pc (Iv 2) Z Z Pz))) Z) (We (Sg (v:=(.agg #[(Sv ⟨#[116,111,112,105,99]⟩),(Iv a0.Topic),(Iv 2)])) (vl:=[(Sv ⟨#[116,111,112,105,99]⟩),(Iv a0.Topic),(Iv 2)]) (arr':=[(Sv ⟨#[116,111,112,105,99]⟩),(Iv a0.Topic),(Iv 2)]) Z sz89 hs24_2 Z (onb Z) Z Z Z) Z ?_))))
 rintro _ _ _ - ⟨rfl,rfl⟩
 exact Nt (Cr (Tr (Qa (Dr (Rd h [] (fun _ hs=>hs.drop) (resultsL1 Z (Rc (cs:=[(Sv ⟨#[116,111,112,105,99]⟩),(Iv a0.Topic),(Iv 2)]) 0 ag89 sz89 hs24_2 Z Z)) L56 ⟨Z,Z⟩)))))
 refine Ck (Tc (Cs (Cs (WC.draw [0,1,0,4,15,31] (.pure 0 (.pure 1 (.pure 2 (.alt 3 (.alt 4 (.pure 5 .done) .none) .none)))) mixed (by kernel_rfl) (qt (pt g21 4) Z (Fa fo45_4 hs24_1 Z) (qt (Iv a0.Part) Z (Lb 1 pl3 Z Z Z) (qt (Iv a0.Kind) Z (Mv hs24_3) ?_)))))))
 obtain ⟨r59,hr60,h⟩:=bnd h
 refine Ta Z (Ca co60 (f_ref05_has_ok a0.Kind (112:Int) _ r59 hr60) (args2 Z Z)) Z ?_ ?_
 rintro _ M61 _ hle62 ⟨_,⟨rfl,rfl⟩,rfl⟩
 have L62:=L56.trans hle62
 refine⟨(Sk 1 Z (Ss Z (Lb 1 pl3 Z Z Z) Z (Ss Z (Fa fo45_4 hs24_1 Z) Z trivial))), ?_⟩
 refine WT.a0 ?_
 obtain ⟨r64,hr65,h⟩:=bnd h
 refine Ta Z (Ca co81 (f_ref05_num_ok a0.Part r59 (0:Int) (255:Int) _ r64 hr65) (args4 Z Z Z Z)) Z ?_ ?_
 rintro _ M66 _ hle67 ⟨_,⟨rfl,rfl⟩,rfl⟩
 have L67:=L62.trans hle67
 refine⟨(Sl Z), ?_⟩
 refine WT.a0 (qt (Bv (!r64)) Z (PO.not Z) (Ti (Tc (Ch h Z (fun hb69 h=> ?_) (fun hb69 h=> ?_)))))
 refine Sr (qu (pt g21 4) (Fa fo45_4 hs24_1 Z) (qu (Iv a0.Part) (Lb 1 pl3 Z Z Z) (qu (.agg #[(Sv ⟨#[112,97,114,116]⟩),(Iv a0.Part),(Iv 2)]) (Bl (cl:=[(Sv ⟨#[112,97,114,116]⟩),(Iv a0.Part),(Iv 2)]) ze89 fp89 (Pc (Sv ⟨#[112,97,114,116]⟩) Z Z (Pc (Iv a0.Part) Z Z (Pc (Iv 2) Z Z Pz))) Z) (We (Sg (v:=(.agg #[(Sv ⟨#[112,97,114,116]⟩),(Iv a0.Part),(Iv 2)])) (vl:=[(Sv ⟨#[112,97,114,116]⟩),(Iv a0.Part),(Iv 2)]) (arr':=[(Sv ⟨#[112,97,114,116]⟩),(Iv a0.Part),(Iv 2)]) Z sz89 hs24_2 Z (onb Z) Z Z Z) Z ?_))))
 rintro _ _ _ - ⟨rfl,rfl⟩
 exact Nt (Cr (Tr (Qa (Dr (Rd h [] (fun _ hs=>hs.drop) (resultsL1 Z (Rc (cs:=[(Sv ⟨#[112,97,114,116]⟩),(Iv a0.Part),(Iv 2)]) 0 ag89 sz89 hs24_2 Z Z)) L67 ⟨Z,Z⟩)))))
 refine Ck (Tc (Cs (Cs (WC.draw [0,1,0,4,15,31] (.pure 0 (.pure 1 (.pure 2 (.alt 3 (.alt 4 (.pure 5 .done) .none) .none)))) mixed (by kernel_rfl) (qt (pt g21 5) Z (Fa fo45_5 hs24_1 Z) (qt (Iv a0.Leader) Z (Lb 1 pl3 Z Z Z) (qt (Iv a0.Kind) Z (Mv hs24_3) ?_)))))))
 obtain ⟨r70,hr71,h⟩:=bnd h
 refine Ta Z (Ca co60 (f_ref05_has_ok a0.Kind (108:Int) _ r70 hr71) (args2 Z Z)) Z ?_ ?_
 rintro _ M72 _ hle73 ⟨_,⟨rfl,rfl⟩,rfl⟩
 have L73:=L67.trans hle73
 refine⟨(Sk 1 Z (Ss Z (Lb 1 pl3 Z Z Z) Z (Ss Z (Fa fo45_5 hs24_1 Z) Z trivial))), ?_⟩
 refine WT.a0 ?_
 obtain ⟨r75,hr76,h⟩:=bnd h
 refine Ta Z (Ca co81 (f_ref05_num_ok a0.Leader r70 (0:Int) (64:Int) _ r75 hr76) (args4 Z Z Z Z)) Z ?_ ?_
 rintro _ M77 _ hle78 ⟨_,⟨rfl,rfl⟩,rfl⟩
 have L78:=L73.trans hle78
 refine⟨(Sl Z), ?_⟩
 refine WT.a0 (qt (Bv (!r75)) Z (PO.not Z) (Ti (Tc (Ch h Z (fun hb80 h=> ?_) (fun hb80 h=> ?_)))))
 refine Sr (qu (pt g21 5) (Fa fo45_5 hs24_1 Z) (qu (Iv a0.Leader) (Lb 1 pl3 Z Z Z) (qu (.agg #[(Sv ⟨#[108,101,97,100,101,114]⟩),(Iv a0.Leader),(Iv 2)]) (Bl (cl:=[(Sv ⟨#[108,101,97,100,101,114]⟩),(Iv a0.Leader),(Iv 2)]) ze89 fp89 (Pc (Sv ⟨#[108,101,97,100,101,114]⟩) Z Z (Pc (Iv a0.Leader) Z Z (Pc (Iv 2) Z Z Pz))) Z) (We (Sg (v:=(.agg #[(Sv ⟨#[108,101,97,100,101,114]⟩),(Iv a0.Leader),(Iv 2)])) (vl:=[(Sv ⟨#[108,101,97,100,101,114]⟩),(Iv a0.Leader),(Iv 2)]) (arr':=[(Sv ⟨#[108,101,97,100,101,114]⟩),(Iv a0.Leader),(Iv 2)]) Z sz89 hs24_2 Z (onb Z) Z Z Z) Z ?_))))
 rintro _ _ _ - ⟨rfl,rfl⟩
 exact Nt (Cr (Tr (Qa (Dr (Rd h [] (fun _ hs=>hs.drop) (resultsL1 Z (Rc (cs:=[(Sv ⟨#[108,101,97,100,101,114]⟩),(Iv a0.Leader),(Iv 2)]) 0 ag89 sz89 hs24_2 Z Z)) L78 ⟨Z,Z⟩)))))
 refine Ck (Tc (Cs ?_))
 obtain ⟨x81,hj82,h⟩:=bnd h
 refine Jf (fun(x81:Bool) ρ' M' H'=>M77.le M'∧[(g22, .cells #[(Sv ⟨#[]⟩),(Iv 0),(Iv 0)] 89 (0,0))]::[(g21, .cells (l45 a0 v0_14 v0_15 v0_16 v0_17).toArray 45 (0,0))]::F=H'∧ρ' 1=(pt g21 0)∧ρ' 2=(pt g22 0)∧ρ' 81=(Bv x81)) x81 ?_ ?_
 have h:=hj82
 refine WC.draw [0,1,0,4,0,31,63,127,255,511,255,1279,255,8191,16383,32767,65535,131071,262143,131071,655359,2097151,4194303,8388607] (.pure 0 (.pure 1 (.pure 2 (.pure 4 (.alt 3 (.alt 5 (.pure 6 (.pure 7 (.pure 8 (.pure 9 (.pure 10 (.pure 12 (.alt 11 (.alt 13 (.pure 14 (.pure 15 (.pure 16 (.pure 17 (.pure 18 (.pure 19 (.alt 20 (.alt 21 (.pure 22 (.pure 23 .done)) .none) .none))))))) .none) .none))))))) .none) .none))))) mixed (by kernel_rfl) (qt (pt g21 6) Z (Fa fo45_6 hs24_1 Z) (qt (Iv a0.Client) Z (Lb 1 pl3 Z Z Z) (qt (Iv a0.Kind) Z (Mv hs24_3) (qt (Iv 1073741824) Z (Mv hs24_4) ?_))))
 obtain ⟨r83,hr84,h⟩:=bnd h
 refine Ta Z (Ca co60 (f_ref05_has_ok a0.Kind (97:Int) _ r83 hr84) (args2 Z Z)) Z ?_ ?_
 rintro _ M85 _ hle86 ⟨_,⟨rfl,rfl⟩,rfl⟩
 refine⟨(Ss Z (Mv hs24_4) Z (Sk 1 Z (Ss Z (Lb 1 pl3 Z Z Z) Z (Ss Z (Fa fo45_6 hs24_1 Z) Z trivial)))), ?_⟩
 refine WT.a0 ?_
 obtain ⟨r88,hr89,h⟩:=bnd h
 refine Ta Z (Ca co81 (f_ref05_num_ok a0.Client r83 (1:Int) (1073741824:Int) _ r88 hr89) (args4 Z Z Z Z)) Z ?_ ?_
 rintro _ M90 _ hle91 ⟨_,⟨rfl,rfl⟩,rfl⟩
 refine⟨(Sl Z), ?_⟩
 refine WT.a0 (qt (Bv (!r88)) Z (PO.not Z) (qt (Bv (!r88)) Z (Mv Z) ?_))
 rcases Bi h with⟨hb93,h⟩ |⟨hb93,h⟩
 refine Tf 65 Z Z Z hb93 Z (Tf 65 Z Z Z hb93 Z (Tf 65 Z Z Z hb93 Z (Tf 65 Z Z Z hb93 Z (Tg 65 Z Z Z hb93 Z ⟨(St (Sf 65 Z Z Z hb93 Z) (Sk 1 Z (St (Sf 65 Z Z Z hb93 Z) (St (Sf 65 Z Z Z hb93 Z) (Sl Z))))), ?_⟩ ?_))))
 refine Tg 65 Z Z Z hb93 Z ⟨(Sl Z), ?_⟩ ?_
 refine Tf 65 Z Z Z hb93 Z (qt (Bv true) Z (Pt Z hb93 Z) (qt (Bv true) Z (Mv Z) (Tf 74 Z Z Z Z Z (Tf 74 Z Z Z Z Z (Tf 74 Z Z Z Z Z (Tg 74 Z Z Z Z Z ⟨(Sk 1 Z (St (Sf 74 Z Z Z Z Z) (St (Sf 74 Z Z Z Z Z) (Sl Z)))), ?_⟩ ?_))))))
 refine Tg 74 Z Z Z Z Z ⟨(Sl Z), ?_⟩ ?_
 refine Tf 74 Z Z Z Z Z (qt (Bv true) Z (Pt Z Z Z) (Ti ?_))
 obtain rfl:=oi h
 exact Tj ⟨(hle86.trans hle91),Z,hs24_1,hs24_2,Z⟩
 exact Tz
 exact Tz
 exact Tz
 exact Tz
 refine Tn (pt g21 7) 65 Z Z Z hb93 (Fa fo45_7 hs24_1 Z) Z (Tn (Iv a0.Serial) 65 Z Z Z hb93 (Lb 1 pl3 Z Z Z) Z (Tn (Iv a0.Kind) 65 Z Z Z hb93 (Mv hs24_3) Z (Tn (Iv 1073741824) 65 Z Z Z hb93 (Mv hs24_4) Z ?_)))
 obtain ⟨r94,hr95,h⟩:=bnd h
 refine WT.altOn 65 Z Z Z hb93 (Ca co60 (f_ref05_has_ok a0.Kind (97:Int) _ r94 hr95) (args2 Z Z)) Z ?_ ?_
 rintro _ M96 _ hle97 ⟨_,⟨rfl,rfl⟩,rfl⟩
 refine⟨(St (StabA.on 65 Z Z Z hb93 (Mv hs24_4) Z) (Sk 1 Z (St (StabA.on 65 Z Z Z hb93 (Lb 1 pl3 Z Z Z) Z) (St (StabA.on 65 Z Z Z hb93 (Fa fo45_7 hs24_1 Z) Z) (Sl Z))))), ?_⟩
 refine WT.a0 ?_
 obtain ⟨r99,hr100,h⟩:=bnd h
 refine WT.altOn 65 Z Z Z hb93 (Ca co81 (f_ref05_num_ok a0.Serial r94 (1:Int) (1073741824:Int) _ r99 hr100) (args4 Z Z Z Z)) Z ?_ ?_
 rintro _ M101 _ hle102 ⟨_,⟨rfl,rfl⟩,rfl⟩
 refine⟨(Sl Z), ?_⟩
 refine WT.a0 (Tn (Bv (!r99)) 65 Z Z Z hb93 (PO.not Z) Z (qt (Bv (!r99)) Z (Pf Z hb93 Z) (qt (Bv (!r99)) Z (Mv Z) ?_)))
 rcases Bi h with⟨hb104,h⟩ |⟨hb104,h⟩
 refine Tf 74 Z Z Z hb104 Z (Tf 74 Z Z Z hb104 Z (Tf 74 Z Z Z hb104 Z (Tg 74 Z Z Z hb104 Z ⟨(Sk 1 Z (St (Sf 74 Z Z Z hb104 Z) (St (Sf 74 Z Z Z hb104 Z) (Sl Z)))), ?_⟩ ?_)))
 refine Tg 74 Z Z Z hb104 Z ⟨(Sl Z), ?_⟩ ?_
 refine Tf 74 Z Z Z hb104 Z (qt (Bv true) Z (Pt Z hb104 Z) (Ti ?_))
 obtain rfl:=oi h
 exact Tj ⟨(((hle86.trans hle91).trans hle97).trans hle102),Z,hs24_1,hs24_2,Z⟩
 exact Tz
 exact Tz
 refine Tn (pt g21 8) 74 Z Z Z hb104 (Fa fo45_8 hs24_1 Z) Z (Tn (Iv a0.Code) 74 Z Z Z hb104 (Lb 1 pl3 Z Z Z) Z (Tn (Iv a0.Kind) 74 Z Z Z hb104 (Mv hs24_3) Z ?_))
 obtain ⟨r105,hr106,h⟩:=bnd h
 refine WT.altOn 74 Z Z Z hb104 (Ca co60 (f_ref05_has_ok a0.Kind (97:Int) _ r105 hr106) (args2 Z Z)) Z ?_ ?_
 rintro _ M107 _ hle108 ⟨_,⟨rfl,rfl⟩,rfl⟩
 refine⟨(Sk 1 Z (St (StabA.on 74 Z Z Z hb104 (Lb 1 pl3 Z Z Z) Z) (St (StabA.on 74 Z Z Z hb104 (Fa fo45_8 hs24_1 Z) Z) (Sl Z)))), ?_⟩
 refine WT.a0 ?_
 obtain ⟨r110,hr111,h⟩:=bnd h
 refine WT.altOn 74 Z Z Z hb104 (Ca co81 (f_ref05_num_ok a0.Code r105 (0:Int) (21:Int) _ r110 hr111) (args4 Z Z Z Z)) Z ?_ ?_
 rintro _ M112 _ hle113 ⟨_,⟨rfl,rfl⟩,rfl⟩
 refine⟨(Sl Z), ?_⟩
 refine WT.a0 (Tn (Bv (!r110)) 74 Z Z Z hb104 (PO.not Z) Z (qt (Bv (!r110)) Z (Pf Z hb104 Z) (Ti ?_)))
 obtain rfl:=oi h
 exact Tj ⟨(((((hle86.trans hle91).trans hle97).trans hle102).trans hle108).trans hle113),Z,hs24_1,hs24_2,Z⟩
 exact Tz
 exact Tz
 exact Tz
 exact Tz
 exact Tz
 exact Tz
 rintro ρ82 M82 H82 ⟨hle82,rfl,hs82_1,hs82_2,hs82_81⟩
 refine Ch h hs82_81 (fun hb115 h=> ?_) (fun hb115 h=> ?_)
 refine Sr (qu (pt g21 6) (Fa fo45_6 hs82_1 Z) (qu (Iv a0.Client) (Lb 1 pl3 Z Z Z) (qu (.agg #[(Sv ⟨#[97,115,107,101,114]⟩),(Iv a0.Client),(Iv 2)]) (Bl (cl:=[(Sv ⟨#[97,115,107,101,114]⟩),(Iv a0.Client),(Iv 2)]) ze89 fp89 (Pc (Sv ⟨#[97,115,107,101,114]⟩) Z Z (Pc (Iv a0.Client) Z Z (Pc (Iv 2) Z Z Pz))) Z) (We (Sg (v:=(.agg #[(Sv ⟨#[97,115,107,101,114]⟩),(Iv a0.Client),(Iv 2)])) (vl:=[(Sv ⟨#[97,115,107,101,114]⟩),(Iv a0.Client),(Iv 2)]) (arr':=[(Sv ⟨#[97,115,107,101,114]⟩),(Iv a0.Client),(Iv 2)]) Z sz89 hs82_2 Z (onb Z) Z Z Z) Z ?_))))
 rintro _ _ _ - ⟨rfl,rfl⟩
 exact Nt (Cr (Tr (Qa (Dr (Rd h [] (fun _ hs=>hs.drop) (resultsL1 Z (Rc (cs:=[(Sv ⟨#[97,115,107,101,114]⟩),(Iv a0.Client),(Iv 2)]) 0 ag89 sz89 hs82_2 Z Z)) (L78.trans hle82) ⟨Z,Z⟩)))))
 refine Ck (Tc (Sr (qu (.agg #[(Sv ⟨#[]⟩),(Iv 0),(Iv 0)]) (Bl (cl:=[(Sv ⟨#[]⟩),(Iv 0),(Iv 0)]) ze89 fp89 Pz Z) (We (Sg (v:=(.agg #[(Sv ⟨#[]⟩),(Iv 0),(Iv 0)])) (vl:=[(Sv ⟨#[]⟩),(Iv 0),(Iv 0)]) (arr':=[(Sv ⟨#[]⟩),(Iv 0),(Iv 0)]) Z sz89 hs82_2 Z (onb Z) Z Z Z) Z ?_))))
 rintro _ _ _ - ⟨rfl,rfl⟩
 exact Nt (Cr (Qa (Dr (Rd h [] (fun _ hs=>hs.drop) (resultsL1 Z (Rc (cs:=[(Sv ⟨#[]⟩),(Iv 0),(Iv 0)]) 0 ag89 sz89 hs82_2 Z Z)) (L78.trans hle82) ⟨Z,Z⟩))))
 exact Tz
 exact Tz
 exact Tz
 exact Tz
 exact Tz
 exact Tz
 exact Tz
 exact Tz
 exact Tz
 exact Tz
noncomputable def f_ref05_Name_l0 (a0:ByteArray) (s_:Int):Option (Int⊕(Unit⊕Unit)):=
 match s_ with
 |x29=>
 (if(decide (x29<(a0.size:Int)))=true then(grd (0≤x29∧x29<a0.size) (((if(decide ((97:Int)≤(btAt a0 x29)))=true then(if(decide ((btAt a0 x29)≤(122:Int)))=true then(some true)else(if(decide ((48:Int)≤(btAt a0 x29)))=true then(if(decide ((btAt a0 x29)≤(57:Int)))=true then(some true)else(if(decide ((btAt a0 x29)=(46:Int)))=true then(some true)else(some (decide ((btAt a0 x29)=(45:Int))))))else(if(decide ((btAt a0 x29)=(46:Int)))=true then(some true)else(some (decide ((btAt a0 x29)=(45:Int)))))))else(if(decide ((48:Int)≤(btAt a0 x29)))=true then(if(decide ((btAt a0 x29)≤(57:Int)))=true then(some true)else(if(decide ((btAt a0 x29)=(46:Int)))=true then(some true)else(some (decide ((btAt a0 x29)=(45:Int))))))else(if(decide ((btAt a0 x29)=(46:Int)))=true then(some true)else(some (decide ((btAt a0 x29)=(45:Int))))))):Option Bool).bind fun x33=>(if(!x33)=true then(some (Sum.inr (Sum.inr ())))else(some (Sum.inl (IntKind.i64.wrap (x29+(1:Int))))))))else(some (Sum.inr (Sum.inl ()))))
noncomputable def f_ref05_Name (a0:ByteArray):Option Bool:=
 (((if(decide ((a0.size:Int)<(1:Int)))=true then(some true)else(if(decide ((40:Int)<(a0.size:Int)))=true then(some true)else(if(decide (a0=(⟨#[46]⟩:ByteArray)))=true then(some true)else(some (decide (a0=(⟨#[46,46]⟩:ByteArray))))))):Option Bool).bind fun x21=>(if x21=true then(some false)else((((iter (f_ref05_Name_l0 a0) (0:Int)).bind (Sum.elim (fun _=>(some (Sum.inl ()))) (fun _=>(((some false)).bind fun r=>some (Sum.inr r))))):Option (Unit⊕Bool)).bind (Sum.elim (fun _=>(some true)) some))))
def f_ref05_Name_post (a0:ByteArray):Bool→Value→IM→HL→Prop:=
 fun(r0:Bool) (v:Value) (M':IM) (H':HL)=>(.bool r0)=v∧H'=[]
theorem f_ref05_Name_ok (a0:ByteArray) (M:IM) (res:Bool) (h:f_ref05_Name a0=some res):
 Tri Tryz.prog 82 #[(Sv a0)] M [] (f_ref05_Name_post a0 res):=by
 unfold f_ref05_Name at h
 refine Te Tryz.func82 Z Z ?_
 intro F ρ hρ
 refine Sr (qa (Bv false) (Nt (Cs ?_)))
 obtain ⟨x21,hj22,h⟩:=bnd h
 refine Jf (fun(x21:Bool) ρ' M' H'=>M.le M'∧F=H'∧ρ' 0=(Sv a0)∧ρ' 21=(Bv x21)) x21 ?_ ?_
 have h:=hj22
 refine Cg (qM (Sv a0) (hρ 0) (qu (Iv (a0.size:Int)) (PO.lenStr Tryz.underlying9 Z) (qu (Bv (decide ((a0.size:Int)<(1:Int)))) (PO.lss Z Z) (qm (Bv (decide ((a0.size:Int)<(1:Int)))) ?_))))
 rcases Bi h with⟨hb23,h⟩ |⟨hb23,h⟩
 iterate 3 refine Of 9 Z Z hb23 Z ?_
 refine qu (Bv true) (Pt Z hb23 Z) (qm (Bv true) ?_)
 iterate 2 refine Of 14 Z Z Z Z ?_
 refine qu (Bv true) (Pt Z Z Z) (qm (Bv true) ?_)
 iterate 2 refine Of 18 Z Z Z Z ?_
 refine qu (Bv true) (Pt Z Z Z) (Wz ?_)
 obtain rfl:=oi h
 exact Tj ⟨lr,Z,(hρ 0),Z⟩
 refine On 9 Z Z hb23 (qM (Sv a0) (hρ 0) (qo 9 hb23 (Iv (a0.size:Int)) (PO.lenStr Tryz.underlying9 Z) (qo 9 hb23 (Bv (decide ((40:Int)<(a0.size:Int)))) (PO.gtr Z Z) (qu (Bv (decide ((40:Int)<(a0.size:Int)))) (Pf Z hb23 Z) (qm (Bv (decide ((40:Int)<(a0.size:Int)))) ?_)))))
 rcases Bi h with⟨hb24,h⟩ |⟨hb24,h⟩
 iterate 2 refine Of 14 Z Z hb24 Z ?_
 refine qu (Bv true) (Pt Z hb24 Z) (qm (Bv true) ?_)
 iterate 2 refine Of 18 Z Z Z Z ?_
 refine qu (Bv true) (Pt Z Z Z) (Wz ?_)
 obtain rfl:=oi h
 exact Tj ⟨lr,Z,(hρ 0),Z⟩
 refine On 14 Z Z hb24 (qM (Sv a0) (hρ 0) (qo 14 hb24 (Bv (decide (a0=(⟨#[46]⟩:ByteArray)))) (PO.seql Z Z) (qu (Bv (decide (a0=(⟨#[46]⟩:ByteArray)))) (Pf Z hb24 Z) (qm (Bv (decide (a0=(⟨#[46]⟩:ByteArray)))) ?_))))
 rcases Bi h with⟨hb25,h⟩ |⟨hb25,h⟩
 iterate 2 refine Of 18 Z Z hb25 Z ?_
 refine qu (Bv true) (Pt Z hb25 Z) (Wz ?_)
 obtain rfl:=oi h
 exact Tj ⟨lr,Z,(hρ 0),Z⟩
 refine On 18 Z Z hb25 (qM (Sv a0) (hρ 0) (qo 18 hb25 (Bv (decide (a0=(⟨#[46,46]⟩:ByteArray)))) (PO.seql Z Z) (qu (Bv (decide (a0=(⟨#[46,46]⟩:ByteArray)))) (Pf Z hb25 Z) (Wz ?_))))
 obtain rfl:=oi h
 exact Tj ⟨lr,Z,(hρ 0),Z⟩
 rintro ρ22 M22 H22 ⟨hle22,rfl,hs22_0,hs22_21⟩
 refine Ch h hs22_21 (fun hb26 h=> ?_) (fun hb26 h=> ?_)
 exact Sr (qa (Bv false) (Nt (Cr (Tr (Rf h [] Z (Rs Z Z) hle22 ⟨Z,Z⟩)))))
 refine Ck (Tc ?_)
 obtain ⟨j27,hj27,h⟩:=bnd h
 refine WC.joinE (fun(_:Unit) ρ' M' H'=>M22.le M'∧F=H') j27 ?_ ?_
 have h327:=h
 have h:=hj27
 refine Sr (qa (Iv 0) (Nt (Bk ?_)))
 obtain ⟨e28,he28,hK28⟩:=bnd h
 clear h
 refine WC.loop he28 (fun(x29:Int) ρ' M' H'=>M22.le M'∧F=H'∧ρ' 0=(Sv a0)∧ρ' 3=(Iv x29)) ?_ ?_
 exact⟨lr,Z,hs22_0,Z⟩
 rintro x29 o28 ρ28 M28 H28 h ⟨hle28,rfl,hs28_0,hs28_3⟩
 unfold f_ref05_Name_l0 at h
 refine Cs (Sr (qM (Iv x29) hs28_3 (qM (Sv a0) hs28_0 (qu (Iv (a0.size:Int)) (PO.lenStr Tryz.underlying9 Z) (qu (Bv (decide (x29<(a0.size:Int)))) (PO.lss Z Z) (Nt (Ch h Z (fun hb30 h=> ?_) (fun hb30 h=> ?_))))))))
 refine Ck (Tc (Cs (Bk (Sr (qM (Sv a0) hs28_0 (qM (Iv x29) hs28_3 ?_))))))
 obtain ⟨hg31,h⟩:=grd_i h
 refine qu (Yv (btAt a0 x29)) (PO.indexStr Tryz.underlying9 Z Z hg31.1 (strAt hg31)) (qa (Yv (btAt a0 x29)) (Nt ?_))
 obtain ⟨x33,hj34,h⟩:=bnd h
 refine Jf (fun(x33:Bool) ρ' M' H'=>M28.le M'∧F=H'∧ρ' 0=(Sv a0)∧ρ' 3=(Iv x29)∧ρ' 5=(Bv x33)) x33 ?_ ?_
 have h:=hj34
 refine Cg (qm (Yv (btAt a0 x29)) (qu (Bv (decide ((97:Int)≤(btAt a0 x29)))) (PO.geq Z Z) (qm (Bv (decide ((97:Int)≤(btAt a0 x29)))) ?_)))
 rcases Bi h with⟨hb35,h⟩ |⟨hb35,h⟩
 refine On 33 Z Z hb35 (qm (Yv (btAt a0 x29)) (qo 33 hb35 (Bv (decide ((btAt a0 x29)≤122))) (PO.leq Z Z) (qu (Bv (decide ((btAt a0 x29)≤122))) (Pt Z hb35 Z) (qm (Bv (decide ((btAt a0 x29)≤122))) ?_))))
 rcases Bi h with⟨hb36,h⟩ |⟨hb36,h⟩
 iterate 3 refine Of 37 Z Z hb36 Z ?_
 refine WL.offU 40 Z Z Z (WL.offU 40 Z Z Z (Of 37 Z Z hb36 Z (qu (Bv true) (Pt Z hb36 Z) (qm (Bv true) ?_))))
 iterate 2 refine Of 45 Z Z Z Z ?_
 refine qu (Bv true) (Pt Z Z Z) (qm (Bv true) ?_)
 iterate 2 refine Of 49 Z Z Z Z ?_
 refine qu (Bv true) (Pt Z Z Z) (qa (Bv true) (Wz ?_))
 obtain rfl:=oi h
 exact Tj ⟨lr,Z,hs28_0,hs28_3,Z⟩
 refine On 37 Z Z hb36 (qm (Yv (btAt a0 x29)) (qo 37 hb36 (Bv (decide ((48:Int)≤(btAt a0 x29)))) (PO.geq Z Z) (On 37 Z Z hb36 (qm (Bv (decide ((48:Int)≤(btAt a0 x29)))) ?_))))
 rcases Bi h with⟨hb37,h⟩ |⟨hb37,h⟩
 refine On 40 Z Z hb37 (qm (Yv (btAt a0 x29)) (qo 40 hb37 (Bv (decide ((btAt a0 x29)≤57))) (PO.leq Z Z) (qo 37 hb36 (Bv (decide ((btAt a0 x29)≤57))) (Pt Z hb37 Z) (qu (Bv (decide ((btAt a0 x29)≤57))) (Pf Z hb36 Z) (qm (Bv (decide ((btAt a0 x29)≤57))) ?_)))))
 rcases Bi h with⟨hb38,h⟩ |⟨hb38,h⟩
 iterate 2 refine Of 45 Z Z hb38 Z ?_
 refine qu (Bv true) (Pt Z hb38 Z) (qm (Bv true) ?_)
 iterate 2 refine Of 49 Z Z Z Z ?_
 refine qu (Bv true) (Pt Z Z Z) (qa (Bv true) (Wz ?_))
 obtain rfl:=oi h
 exact Tj ⟨lr,Z,hs28_0,hs28_3,Z⟩
 refine On 45 Z Z hb38 (qm (Yv (btAt a0 x29)) (qo 45 hb38 (Bv (decide ((btAt a0 x29)=46))) (PO.eql Z Z) (qu (Bv (decide ((btAt a0 x29)=46))) (Pf Z hb38 Z) (qm (Bv (decide ((btAt a0 x29)=46))) ?_))))
 rcases Bi h with⟨hb39,h⟩ |⟨hb39,h⟩
 iterate 2 refine Of 49 Z Z hb39 Z ?_
 refine qu (Bv true) (Pt Z hb39 Z) (qa (Bv true) (Wz ?_))
 obtain rfl:=oi h
 exact Tj ⟨lr,Z,hs28_0,hs28_3,Z⟩
 refine On 49 Z Z hb39 (qm (Yv (btAt a0 x29)) (qo 49 hb39 (Bv (decide ((btAt a0 x29)=45))) (PO.eql Z Z) (qu (Bv (decide ((btAt a0 x29)=45))) (Pf Z hb39 Z) (qa (Bv (decide ((btAt a0 x29)=45))) (Wz ?_)))))
 obtain rfl:=oi h
 exact Tj ⟨lr,Z,hs28_0,hs28_3,Z⟩
 iterate 2 refine Of 40 Z Z hb37 Z ?_
 refine qo 37 hb36 (Bv false) (Pf Z hb37 Z) (qu (Bv false) (Pf Z hb36 Z) (qm (Bv false) (On 45 Z Z Z (qm (Yv (btAt a0 x29)) (qo 45 Z (Bv (decide ((btAt a0 x29)=46))) (PO.eql Z Z) (qu (Bv (decide ((btAt a0 x29)=46))) (Pf Z Z Z) (qm (Bv (decide ((btAt a0 x29)=46))) ?_)))))))
 rcases Bi h with⟨hb40,h⟩ |⟨hb40,h⟩
 iterate 2 refine Of 49 Z Z hb40 Z ?_
 refine qu (Bv true) (Pt Z hb40 Z) (qa (Bv true) (Wz ?_))
 obtain rfl:=oi h
 exact Tj ⟨lr,Z,hs28_0,hs28_3,Z⟩
 refine On 49 Z Z hb40 (qm (Yv (btAt a0 x29)) (qo 49 hb40 (Bv (decide ((btAt a0 x29)=45))) (PO.eql Z Z) (qu (Bv (decide ((btAt a0 x29)=45))) (Pf Z hb40 Z) (qa (Bv (decide ((btAt a0 x29)=45))) (Wz ?_)))))
 obtain rfl:=oi h
 exact Tj ⟨lr,Z,hs28_0,hs28_3,Z⟩
 iterate 2 refine Of 33 Z Z hb35 Z ?_
 refine qu (Bv false) (Pf Z hb35 Z) (qm (Bv false) (On 37 Z Z Z (qm (Yv (btAt a0 x29)) (qo 37 Z (Bv (decide ((48:Int)≤(btAt a0 x29)))) (PO.geq Z Z) (On 37 Z Z Z (qm (Bv (decide ((48:Int)≤(btAt a0 x29)))) ?_))))))
 rcases Bi h with⟨hb41,h⟩ |⟨hb41,h⟩
 refine On 40 Z Z hb41 (qm (Yv (btAt a0 x29)) (qo 40 hb41 (Bv (decide ((btAt a0 x29)≤57))) (PO.leq Z Z) (qo 37 Z (Bv (decide ((btAt a0 x29)≤57))) (Pt Z hb41 Z) (qu (Bv (decide ((btAt a0 x29)≤57))) (Pf Z Z Z) (qm (Bv (decide ((btAt a0 x29)≤57))) ?_)))))
 rcases Bi h with⟨hb42,h⟩ |⟨hb42,h⟩
 iterate 2 refine Of 45 Z Z hb42 Z ?_
 refine qu (Bv true) (Pt Z hb42 Z) (qm (Bv true) ?_)
 iterate 2 refine Of 49 Z Z Z Z ?_
 refine qu (Bv true) (Pt Z Z Z) (qa (Bv true) (Wz ?_))
 obtain rfl:=oi h
 exact Tj ⟨lr,Z,hs28_0,hs28_3,Z⟩
 refine On 45 Z Z hb42 (qm (Yv (btAt a0 x29)) (qo 45 hb42 (Bv (decide ((btAt a0 x29)=46))) (PO.eql Z Z) (qu (Bv (decide ((btAt a0 x29)=46))) (Pf Z hb42 Z) (qm (Bv (decide ((btAt a0 x29)=46))) ?_))))
 rcases Bi h with⟨hb43,h⟩ |⟨hb43,h⟩
 iterate 2 refine Of 49 Z Z hb43 Z ?_
 refine qu (Bv true) (Pt Z hb43 Z) (qa (Bv true) (Wz ?_))
 obtain rfl:=oi h
 exact Tj ⟨lr,Z,hs28_0,hs28_3,Z⟩
 refine On 49 Z Z hb43 (qm (Yv (btAt a0 x29)) (qo 49 hb43 (Bv (decide ((btAt a0 x29)=45))) (PO.eql Z Z) (qu (Bv (decide ((btAt a0 x29)=45))) (Pf Z hb43 Z) (qa (Bv (decide ((btAt a0 x29)=45))) (Wz ?_)))))
 obtain rfl:=oi h
 exact Tj ⟨lr,Z,hs28_0,hs28_3,Z⟩
 iterate 2 refine Of 40 Z Z hb41 Z ?_
 refine qo 37 Z (Bv false) (Pf Z hb41 Z) (qu (Bv false) (Pf Z Z Z) (qm (Bv false) (On 45 Z Z Z (qm (Yv (btAt a0 x29)) (qo 45 Z (Bv (decide ((btAt a0 x29)=46))) (PO.eql Z Z) (qu (Bv (decide ((btAt a0 x29)=46))) (Pf Z Z Z) (qm (Bv (decide ((btAt a0 x29)=46))) ?_)))))))
 rcases Bi h with⟨hb44,h⟩ |⟨hb44,h⟩
 iterate 2 refine Of 49 Z Z hb44 Z ?_
 refine qu (Bv true) (Pt Z hb44 Z) (qa (Bv true) (Wz ?_))
 obtain rfl:=oi h
 exact Tj ⟨lr,Z,hs28_0,hs28_3,Z⟩
 refine On 49 Z Z hb44 (qm (Yv (btAt a0 x29)) (qo 49 hb44 (Bv (decide ((btAt a0 x29)=45))) (PO.eql Z Z) (qu (Bv (decide ((btAt a0 x29)=45))) (Pf Z hb44 Z) (qa (Bv (decide ((btAt a0 x29)=45))) (Wz ?_)))))
 obtain rfl:=oi h
 exact Tj ⟨lr,Z,hs28_0,hs28_3,Z⟩
 rintro ρ34 M34 H34 ⟨hle34,rfl,hs34_0,hs34_3,hs34_5⟩
 refine Sr (qM (Bv x33) hs34_5 (qu (Bv (!x33)) (PO.not Z) (Nt (Ch h Z (fun hb45 h=> ?_) (fun hb45 h=> ?_)))))
 refine Sr (qa (Bv false) (Nt (Cr (Br (Tr (WQ.leaveR (Sum.inr ()) (oi h).symm (fun heq28=> ?_)))))))
 subst heq28
 have h:=(elimR hK28)
 refine Br (Tr ?_)
 have h:=KK.early h h327
 exact Rf h [] Z (Rs Z Z) ((hle22.trans hle28).trans hle34) ⟨Z,Z⟩
 exact Ck (Bn (Tc (Cg (qM (Iv x29) hs34_3 (qu (Iv (IntKind.i64.wrap (x29+1))) (PO.add Z Z) (qa (Iv (IntKind.i64.wrap (x29+1))) (Wz (WQ.again (IntKind.i64.wrap (x29+1)) (oi h).symm ⟨(hle28.trans hle34),Z,hs34_0,Z⟩))))))))
 refine WC.exit (WQ.thenE (WQ.leaveE (Sum.inl ()) (oi h).symm (fun heq28=> ?_)))
 subst heq28
 have h:=elimL hK28
 exact WQ.blockH (WQ.thenFE h ⟨hle28,Z⟩)
 rintro _ ρ27 M27 H27 rfl ⟨hle27,rfl⟩
 have h:=(Sum.elim_inl _ _ _).symm.trans h
 exact Sr (qa (Bv true) (Nt (Cr (Rf h [] Z (Rs Z Z) (hle22.trans hle27) ⟨Z,Z⟩))))
noncomputable def f_ref05_name (a0:ByteArray) (a1:Bool):Option Bool:=
 (if a1=true then((f_ref05_Name a0).bind fun r22=>(some r22))else(some (decide (a0=(⟨#[]⟩:ByteArray)))))
def f_ref05_name_post (a0:ByteArray) (a1:Bool):Bool→Value→IM→HL→Prop:=
 fun(r0:Bool) (v:Value) (M':IM) (H':HL)=>(.bool r0)=v∧H'=[]
theorem f_ref05_name_ok (a0:ByteArray) (a1:Bool) (M:IM) (res:Bool) (h:f_ref05_name a0 a1=some res):
 Tri Tryz.prog 61 #[(Sv a0),(Bv a1)] M [] (f_ref05_name_post a0 a1 res):=by
 unfold f_ref05_name at h
 refine Te Tryz.func61 Z Z ?_
 intro F ρ hρ
 refine Sr (qa (Bv false) (Nt (Cs (Sr (qM (Bv a1) (hρ 1) (Nt (Ch h Z (fun hb21 h=> ?_) (fun hb21 h=> ?_))))))))
 refine Sr (qM (Sv a0) (hρ 0) ?_)
 obtain ⟨r22,hr23,h⟩:=bnd h
 refine We (Ca co82 (f_ref05_Name_ok a0 _ r22 hr23) (args1 Z)) Z ?_
 rintro _ M24 _ hle25 ⟨_,⟨rfl,rfl⟩,rfl⟩
 exact WL.a0 (qa (Bv r22) (Nt (Cr (Tr (Rf h [] Z (Rs Z Z) hle25 ⟨Z,Z⟩)))))
 exact Ck (Tc (Sr (qM (Sv a0) (hρ 0) (qu (Bv (decide (a0=(⟨#[]⟩:ByteArray)))) (PO.seql Z Z) (qa (Bv (decide (a0=(⟨#[]⟩:ByteArray)))) (Nt (Cr (Rf h [] Z (Rs Z Z) lr ⟨Z,Z⟩))))))))
noncomputable def f_ref05_Brokers_l1 (a0:(List Int)) (x24:Int) (s_:Int):Option (Int⊕(Unit⊕Unit)):=
 match s_ with
 |x46=>
 (if(decide (x46<x24))=true then(grd (0≤x46∧x46<a0.length) (grd (0≤x24∧x24<a0.length) (if(decide ((rd a0 x46)=(rd a0 x24)))=true then(some (Sum.inr (Sum.inr ())))else(some (Sum.inl (IntKind.i64.wrap (x46+(1:Int))))))))else(some (Sum.inr (Sum.inl ()))))
noncomputable def f_ref05_Brokers_l0 (a0:(List Int)) (s_:Int):Option (Int⊕(Unit⊕Unit)):=
 match s_ with
 |x24=>
 (if(decide (x24<(a0.length:Int)))=true then(((((grd (0≤x24∧x24<a0.length) (if(decide ((rd a0 x24)<(1:Int)))=true then(some true)else(grd (0≤x24∧x24<a0.length) (some (decide ((64:Int)<(rd a0 x24))))))):Option Bool).bind fun x27=>(if x27=true then(((some (Sum.inr (Sum.inr ())))).bind fun r=>some (Sum.inr r))else((iter (f_ref05_Brokers_l1 a0 x24) (0:Int)).bind (Sum.elim (fun _=>(some (Sum.inl ()))) (fun _=>(((some (Sum.inr (Sum.inr ())))).bind fun r=>some (Sum.inr r))))))):Option (Unit⊕(Int⊕(Unit⊕Unit)))).bind (Sum.elim (fun _=>(some (Sum.inl (IntKind.i64.wrap (x24+(1:Int)))))) some))else(some (Sum.inr (Sum.inl ()))))
noncomputable def f_ref05_Brokers (a0:(List Int)):Option Bool:=
 (if(decide ((7:Int)<(a0.length:Int)))=true then(some false)else((((iter (f_ref05_Brokers_l0 a0) (0:Int)).bind (Sum.elim (fun _=>(some (Sum.inl ()))) (fun _=>(((some false)).bind fun r=>some (Sum.inr r))))):Option (Unit⊕Bool)).bind (Sum.elim (fun _=>(some true)) some)))
def f_ref05_Brokers_post (a0:(List Int)) (v0:Value):Bool→Value→IM→HL→Prop:=
 fun(r0:Bool) (v:Value) (M':IM) (H':HL)=>(.bool r0)=v∧H'=[]
theorem f_ref05_Brokers_ok (a0:(List Int)) (M:IM) (v0:Value) (h0:RS (Kd.int .i64) M v0 a0) (res:Bool) (h:f_ref05_Brokers a0=some res):
 Tri Tryz.prog 83 #[v0] M [] (f_ref05_Brokers_post a0 v0 res):=by
 unfold f_ref05_Brokers at h
 refine Te Tryz.func83 Z Z ?_
 intro F ρ hρ
 refine Sr (qa (Bv false) (Nt (Cs (Sr (qM v0 (hρ 0) (qu (Iv (a0.length:Int)) (PO.lenS Tryz.underlying43 Z h0.len) (qu (Bv (decide ((7:Int)<(a0.length:Int)))) (PO.gtr Z Z) (Nt (Ch h Z (fun hb21 h=> ?_) (fun hb21 h=> ?_))))))))))
 exact Sr (qa (Bv false) (Nt (Cr (Tr (Rf h [] Z (Rs Z Z) lr ⟨Z,Z⟩)))))
 refine Ck (Tc ?_)
 obtain ⟨j22,hj22,h⟩:=bnd h
 refine WC.joinE (fun(_:Unit) ρ' M' H'=>M.le M'∧F=H') j22 ?_ ?_
 have h322:=h
 have h:=hj22
 refine Sr (qa (Iv 0) (Nt (Bk ?_)))
 obtain ⟨e23,he23,hK23⟩:=bnd h
 clear h
 refine WC.loop he23 (fun(x24:Int) ρ' M' H'=>M.le M'∧F=H'∧ρ' 0=v0∧ρ' 3=(Iv x24)) ?_ ?_
 exact⟨lr,Z,(hρ 0),Z⟩
 rintro x24 o23 ρ23 M23 H23 h ⟨hle23,rfl,hs23_0,hs23_3⟩
 unfold f_ref05_Brokers_l0 at h
 refine Cs (Sr (qM (Iv x24) hs23_3 (qM v0 hs23_0 ?_)))
 have h0:=h0.mono hle23
 refine qu (Iv (a0.length:Int)) (PO.lenS Tryz.underlying43 Z h0.len) (qu (Bv (decide (x24<(a0.length:Int)))) (PO.lss Z Z) (Nt (Ch h Z (fun hb25 h=> ?_) (fun hb25 h=> ?_))))
 refine Ck (Tc ?_)
 obtain ⟨j26,hj26,h⟩:=bnd h
 refine WC.joinE (fun(_:Unit) ρ' M' H'=>M23.le M'∧F=H'∧ρ' 0=v0∧ρ' 3=(Iv x24)) j26 ?_ ?_
 have h326:=h
 have h:=hj26
 refine Bk (Cs ?_)
 obtain ⟨x27,hj28,h⟩:=bnd h
 refine Jf (fun(x27:Bool) ρ' M' H'=>M23.le M'∧F=H'∧ρ' 0=v0∧ρ' 3=(Iv x24)∧ρ' 25=(Bv x27)) x27 ?_ ?_
 have h:=hj28
 refine Cg (qM v0 hs23_0 (qM (Iv x24) hs23_3 ?_))
 obtain ⟨hg29,h⟩:=grd_i h
 obtain ⟨p30,cs31,hat32,hrc33,hhas34⟩:=h0.at hg29.1 hg29.2 (by decide)
 obtain rfl:=hrc33
 refine qu (.pointer (some p30)) (PO.indexAddr (n:=a0.length) Tryz.underlying43 sz3 Z Z hg29.1 hg29.2 hat32) (qu (Iv (rd a0 x24)) (PO.loadM pl3 Z (IM.has0 hhas34)) (qu (Bv (decide ((rd a0 x24)<1))) (PO.lss Z Z) (qm (Bv (decide ((rd a0 x24)<1))) ?_)))
 rcases Bi h with⟨hb36,h⟩ |⟨hb36,h⟩
 iterate 5 refine Of 19 Z Z hb36 Z ?_
 refine qu (Bv true) (Pt Z hb36 Z) (Wz ?_)
 obtain rfl:=oi h
 exact Tj ⟨lr,Z,hs23_0,hs23_3,Z⟩
 refine On 19 Z Z hb36 (qM v0 hs23_0 (On 19 Z Z hb36 (qM (Iv x24) hs23_3 (On 19 Z Z hb36 ?_))))
 obtain ⟨hg37,h⟩:=grd_i h
 obtain ⟨p38,cs39,hat40,hrc41,hhas42⟩:=h0.at hg37.1 hg37.2 (by decide)
 obtain rfl:=hrc41
 refine qu (.pointer (some p38)) (PO.indexAddr (n:=a0.length) Tryz.underlying43 sz3 Z Z hg37.1 hg37.2 hat40) (qo 19 hb36 (Iv (rd a0 x24)) (PO.loadM pl3 Z (IM.has0 hhas42)) (qo 19 hb36 (Bv (decide ((64:Int)<(rd a0 x24)))) (PO.gtr Z Z) (qu (Bv (decide ((64:Int)<(rd a0 x24)))) (Pf Z hb36 Z) (Wz ?_))))
 obtain rfl:=oi h
 exact Tj ⟨lr,Z,hs23_0,hs23_3,Z⟩
 rintro ρ28 M28 H28 ⟨hle28,rfl,hs28_0,hs28_3,hs28_25⟩
 refine Ch h hs28_25 (fun hb44 h=> ?_) (fun hb44 h=> ?_)
 refine Sr (qa (Bv false) (Nt (Cr (Tr (Br (Tr ?_))))))
 have h:=KK.early h h326
 refine WQ.leaveR (Sum.inr ()) (oi h).symm (fun heq23=> ?_)
 subst heq23
 have h:=(elimR hK23)
 refine Br (Tr ?_)
 have h:=KK.early h h322
 exact Rf h [] Z (Rs Z Z) (hle23.trans hle28) ⟨Z,Z⟩
 refine Ck (Tc (Sr (qa (Iv 0) (Nt (Bk ?_)))))
 obtain ⟨e45,he45,hK45⟩:=bnd h
 clear h
 refine WC.loop he45 (fun(x46:Int) ρ' M' H'=>M28.le M'∧F=H'∧ρ' 0=v0∧ρ' 3=(Iv x24)∧ρ' 4=(Iv x46)) ?_ ?_
 exact⟨lr,Z,hs28_0,hs28_3,Z⟩
 rintro x46 o45 ρ45 M45 H45 h ⟨hle45,rfl,hs45_0,hs45_3,hs45_4⟩
 unfold f_ref05_Brokers_l1 at h
 refine Cs (Sr (qM (Iv x46) hs45_4 (qM (Iv x24) hs45_3 (qu (Bv (decide (x46<x24))) (PO.lss Z Z) (Nt (Ch h Z (fun hb47 h=> ?_) (fun hb47 h=> ?_)))))))
 refine Ck (Tc (Cs (Bk (Cs (WC.draw [0,0,3,7,0,0,48,112,255] (.pure 0 (.pure 1 (.pure 2 (.pure 3 (.pure 4 (.pure 5 (.pure 6 (.pure 7 (.pure 8 .done))))))))) mixed (by kernel_rfl) (qt v0 Z (Mv hs45_0) (qt (Iv x46) Z (Mv hs45_4) ?_)))))))
 obtain ⟨hg48,h⟩:=grd_i h
 have h0:=h0.mono (hle28.trans hle45)
 obtain ⟨p49,cs50,hat51,hrc52,hhas53⟩:=h0.at hg48.1 hg48.2 (by decide)
 obtain rfl:=hrc52
 refine qt (.pointer (some p49)) Z (PO.indexAddr (n:=a0.length) Tryz.underlying43 sz3 Z Z hg48.1 hg48.2 hat51) (qt (Iv (rd a0 x46)) Z (PO.loadM pl3 Z (IM.has0 hhas53)) (qt v0 Z (Mv hs45_0) (qt (Iv x24) Z (Mv hs45_3) ?_)))
 obtain ⟨hg55,h⟩:=grd_i h
 obtain ⟨p56,cs57,hat58,hrc59,hhas60⟩:=h0.at hg55.1 hg55.2 (by decide)
 obtain rfl:=hrc59
 refine qt (.pointer (some p56)) Z (PO.indexAddr (n:=a0.length) Tryz.underlying43 sz3 Z Z hg55.1 hg55.2 hat58) (qt (Iv (rd a0 x24)) Z (PO.loadM pl3 Z (IM.has0 hhas60)) (qt (Bv (decide ((rd a0 x46)=(rd a0 x24)))) Z (PO.eql Z Z) (Ti (Tc (Ch h Z (fun hb62 h=> ?_) (fun hb62 h=> ?_))))))
 refine Sr (qa (Bv false) (Nt (Cr (Br (Tr (WQ.leaveR (Sum.inr ()) (oi h).symm (fun heq45=> ?_)))))))
 subst heq45
 have h:=(elimR hK45)
 refine Br (Br (Tr ?_))
 have h:=KK.early h h326
 refine WQ.leaveR (Sum.inr ()) (oi h).symm (fun heq23=> ?_)
 subst heq23
 have h:=(elimR hK23)
 refine Br (Tr ?_)
 have h:=KK.early h h322
 exact Rf h [] Z (Rs Z Z) ((hle23.trans hle28).trans hle45) ⟨Z,Z⟩
 exact Ck (Bn (Tc (Cg (qM (Iv x46) hs45_4 (qu (Iv (IntKind.i64.wrap (x46+1))) (PO.add Z Z) (qa (Iv (IntKind.i64.wrap (x46+1))) (Wz (WQ.again (IntKind.i64.wrap (x46+1)) (oi h).symm ⟨hle45,Z,hs45_0,hs45_3,Z⟩))))))))
 refine WC.exit (WQ.thenE (WQ.leaveE (Sum.inl ()) (oi h).symm (fun heq45=> ?_)))
 subst heq45
 have h:=elimL hK45
 exact WQ.blockH (Bn (WQ.thenFE h ⟨(hle28.trans hle45),Z,hs45_0,hs45_3⟩))
 rintro _ ρ26 M26 H26 rfl ⟨hle26,rfl,hs26_0,hs26_3⟩
 have h:=(Sum.elim_inl _ _ _).symm.trans h
 exact Cg (qM (Iv x24) hs26_3 (qu (Iv (IntKind.i64.wrap (x24+1))) (PO.add Z Z) (qa (Iv (IntKind.i64.wrap (x24+1))) (Wz (WQ.again (IntKind.i64.wrap (x24+1)) (oi h).symm ⟨(hle23.trans hle26),Z,hs26_0,Z⟩)))))
 refine WC.exit (WQ.thenE (WQ.leaveE (Sum.inl ()) (oi h).symm (fun heq23=> ?_)))
 subst heq23
 have h:=elimL hK23
 exact WQ.blockH (WQ.thenFE h ⟨hle23,Z⟩)
 rintro _ ρ22 M22 H22 rfl ⟨hle22,rfl⟩
 have h:=(Sum.elim_inl _ _ _).symm.trans h
 exact Sr (qa (Bv true) (Nt (Cr (Rf h [] Z (Rs Z Z) hle22 ⟨Z,Z⟩))))
noncomputable def f_ref05_row (a0:(List Int)) (a1:Bool):Option Bool:=
 (if a1=true then((f_ref05_Brokers a0).bind fun r22=>(some r22))else(some (decide ((a0.length:Int)=(0:Int)))))
def f_ref05_row_post (a0:(List Int)) (a1:Bool) (v0:Value):Bool→Value→IM→HL→Prop:=
 fun(r0:Bool) (v:Value) (M':IM) (H':HL)=>(.bool r0)=v∧H'=[]
theorem f_ref05_row_ok (a0:(List Int)) (a1:Bool) (M:IM) (v0:Value) (h0:RS (Kd.int .i64) M v0 a0) (res:Bool) (h:f_ref05_row a0 a1=some res):
 Tri Tryz.prog 62 #[v0,(Bv a1)] M [] (f_ref05_row_post a0 a1 v0 res):=by
 unfold f_ref05_row at h
 refine Te Tryz.func62 Z Z ?_
 intro F ρ hρ
 refine Sr (qa (Bv false) (Nt (Cs (Sr (qM (Bv a1) (hρ 1) (Nt (Ch h Z (fun hb21 h=> ?_) (fun hb21 h=> ?_))))))))
 refine Sr (qM v0 (hρ 0) ?_)
 obtain ⟨r22,hr23,h⟩:=bnd h
 refine We (Ca co83 (f_ref05_Brokers_ok a0 _ _ h0 r22 hr23) (args1 Z)) Z ?_
 rintro _ M24 _ hle25 ⟨_,⟨rfl,rfl⟩,rfl⟩
 exact WL.a0 (qa (Bv r22) (Nt (Cr (Tr (Rf h [] Z (Rs Z Z) hle25 ⟨Z,Z⟩)))))
 exact Ck (Tc (Sr (qM v0 (hρ 0) (qu (Iv (a0.length:Int)) (PO.lenS Tryz.underlying43 Z h0.len) (qu (Bv (decide ((a0.length:Int)=(0:Int)))) (PO.eql Z Z) (qa (Bv (decide ((a0.length:Int)=(0:Int)))) (Nt (Cr (Rf h [] Z (Rs Z Z) lr ⟨Z,Z⟩)))))))))

end Go.Proofs.YtpcbipcdfccnnaaGreat.G
