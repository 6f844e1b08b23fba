/- Go functions: what they come to, and that they do. Printed by a program of the session (gen). -/
import Derived.Test.YtjiffdgidodebaaGreatDoorPF
import Derived.Test.YtjiffdgidodebaaGreatDoorP14
import Derived.Test.YtjiffdgidodebaaGreatDoorKShar2
import Derived.Test.YtjiffdgidodebaaGreatDoorKConv
set_option linter.unusedVariables false
set_option linter.unusedSimpArgs false
set_option maxHeartbeats 8000000
set_option maxRecDepth 100000
namespace Go.Proofs.YtjiffdgidodebaaGreatDoor.G
open Go Go.KK

noncomputable def f_ref05_Bytes (a0 : T_api_Record) : Option (List Int) :=
  ((f_ref05_has a0.Kind (98 : Int)).bind fun (r25 : Bool) => ((f_ref05_int1 a0.Broker r25).bind fun (r30 : (List Int)) => (grd ([IntKind.u8.wrap a0.Kind].length + r30.length ≤ 274877906944) ((f_ref05_has a0.Kind (101 : Int)).bind fun (r39 : Bool) => ((f_ref05_int1 a0.Epoch r39).bind fun (r44 : (List Int)) => (grd (([IntKind.u8.wrap a0.Kind] ++ r30).length + r44.length ≤ 274877906944) ((f_ref05_has a0.Kind (116 : Int)).bind fun (r53 : Bool) => ((f_ref05_int1 a0.Topic r53).bind fun (r58 : (List Int)) => (grd ((([IntKind.u8.wrap a0.Kind] ++ r30) ++ r44).length + r58.length ≤ 274877906944) ((f_ref05_has a0.Kind (112 : Int)).bind fun (r67 : Bool) => ((f_ref05_int1 a0.Part r67).bind fun (r72 : (List Int)) => (grd (((([IntKind.u8.wrap a0.Kind] ++ r30) ++ r44) ++ r58).length + r72.length ≤ 274877906944) ((f_ref05_has a0.Kind (108 : Int)).bind fun (r81 : Bool) => ((f_ref05_int1 a0.Leader r81).bind fun (r86 : (List Int)) => (grd ((((([IntKind.u8.wrap a0.Kind] ++ r30) ++ r44) ++ r58) ++ r72).length + r86.length ≤ 274877906944) ((f_ref05_has a0.Kind (97 : Int)).bind fun (r95 : Bool) => ((f_ref05_int1 a0.Client r95).bind fun (r100 : (List Int)) => (grd (((((([IntKind.u8.wrap a0.Kind] ++ r30) ++ r44) ++ r58) ++ r72) ++ r86).length + r100.length ≤ 274877906944) ((f_ref05_has a0.Kind (97 : Int)).bind fun (r109 : Bool) => ((f_ref05_int1 a0.Serial r109).bind fun (r114 : (List Int)) => (grd ((((((([IntKind.u8.wrap a0.Kind] ++ r30) ++ r44) ++ r58) ++ r72) ++ r86) ++ r100).length + r114.length ≤ 274877906944) ((f_ref05_has a0.Kind (97 : Int)).bind fun (r123 : Bool) => ((f_ref05_int1 a0.Code r123).bind fun (r128 : (List Int)) => (grd (((((((([IntKind.u8.wrap a0.Kind] ++ r30) ++ r44) ++ r58) ++ r72) ++ r86) ++ r100) ++ r114).length + r128.length ≤ 274877906944) ((((f_ref05_has a0.Kind (102 : Int)).bind fun (r139 : Bool) => (if r139 = true then ((f_ref02_Flag a0.Flag).bind fun (r145 : (List Int)) => (grd ((((((((([IntKind.u8.wrap a0.Kind] ++ r30) ++ r44) ++ r58) ++ r72) ++ r86) ++ r100) ++ r114) ++ r128).length + r145.length ≤ 274877906944) (some ((((((((([IntKind.u8.wrap a0.Kind] ++ r30) ++ r44) ++ r58) ++ r72) ++ r86) ++ r100) ++ r114) ++ r128) ++ r145)))) else (some (((((((([IntKind.u8.wrap a0.Kind] ++ r30) ++ r44) ++ r58) ++ r72) ++ r86) ++ r100) ++ r114) ++ r128)))) : Option (List Int)).bind fun (x137 : (List Int)) => ((f_ref05_has a0.Kind (110 : Int)).bind fun (r154 : Bool) => ((f_ref05_text1 a0.Name r154).bind fun (r159 : (List Int)) => (grd (x137.length + r159.length ≤ 274877906944) ((f_ref05_has a0.Kind (107 : Int)).bind fun (r168 : Bool) => ((f_ref05_text1 a0.Key r168).bind fun (r173 : (List Int)) => (grd ((x137 ++ r159).length + r173.length ≤ 274877906944) ((f_ref05_has a0.Kind (118 : Int)).bind fun (r182 : Bool) => ((f_ref05_text1 a0.Value r182).bind fun (r187 : (List Int)) => (grd (((x137 ++ r159) ++ r173).length + r187.length ≤ 274877906944) ((f_ref05_has a0.Kind (114 : Int)).bind fun (r196 : Bool) => ((f_ref05_text1 a0.Rack r196).bind fun (r201 : (List Int)) => (grd ((((x137 ++ r159) ++ r173) ++ r187).length + r201.length ≤ 274877906944) ((f_ref05_has a0.Kind (105 : Int)).bind fun (r210 : Bool) => ((f_ref05_row1 a0.Ids r210).bind fun (r215 : (List Int)) => (grd (((((x137 ++ r159) ++ r173) ++ r187) ++ r201).length + r215.length ≤ 274877906944) ((f_ref05_has a0.Kind (109 : Int)).bind fun (r224 : Bool) => ((f_ref05_row1 a0.Isr r224).bind fun (r229 : (List Int)) => (grd ((((((x137 ++ r159) ++ r173) ++ r187) ++ r201) ++ r215).length + r229.length ≤ 274877906944) ((f_ref05_has a0.Kind (120 : Int)).bind fun (r238 : Bool) => ((f_ref05_row1 a0.Add r238).bind fun (r243 : (List Int)) => (grd (((((((x137 ++ r159) ++ r173) ++ r187) ++ r201) ++ r215) ++ r229).length + r243.length ≤ 274877906944) ((f_ref05_has a0.Kind (120 : Int)).bind fun (r252 : Bool) => ((f_ref05_row1 a0.Drop r252).bind fun (r257 : (List Int)) => (grd ((((((((x137 ++ r159) ++ r173) ++ r187) ++ r201) ++ r215) ++ r229) ++ r243).length + r257.length ≤ 274877906944) (some ((((((((x137 ++ r159) ++ r173) ++ r187) ++ r201) ++ r215) ++ r229) ++ r243) ++ r257)))))))))))))))))))))))))))))))))))))))))))))))))))
def f_ref05_Bytes_post (a0 : T_api_Record) (v0_14 v0_15 v0_16 v0_17 : Value) : (List Int) → Value → IM → HL → Prop :=
  fun (r0 : (List Int)) (v : Value) (M' : IM) (H' : HL) => ∃ vz0 cz0, vz0 = v ∧ H' = [cz0] ∧ OwnS (Kd.int .u8) M' vz0 r0 cz0
theorem f_ref05_Bytes_ok (a0 : T_api_Record) (M : IM) (v0_14 v0_15 v0_16 v0_17 : Value) (h0_14 : RS (Kd.int .i64) M v0_14 a0.Ids) (h0_15 : RS (Kd.int .i64) M v0_15 a0.Isr) (h0_16 : RS (Kd.int .i64) M v0_16 a0.Add) (h0_17 : RS (Kd.int .i64) M v0_17 a0.Drop) (res : (List Int)) (h : f_ref05_Bytes a0 = some res) :
    Tri Tryz.prog 77 #[(a67_ a0 v0_14 v0_15 v0_16 v0_17)] M [] (f_ref05_Bytes_post a0 v0_14 v0_15 v0_16 v0_17 res) := by
 unfold f_ref05_Bytes at h
 refine Tri.enter (fn := Tryz.f77) Tryz.func77 rfl (Nat.le_of_ble_eq_true rfl) ?_
 intro F ρ hρ
 refine Sr ?_
 refine WL.eff (EO.box (cs := (l67 a0 v0_14 v0_15 v0_16 v0_17).toArray) (congrArg Value.cells (asE (a67_ a0 v0_14 v0_15 v0_16 v0_17) (hρ 0)))) rfl ?_
 rintro _ _ _ - ⟨rfl, g21, rfl, rfl⟩
 refine Pa (.slice none 0 0) rfl rfl ?_
 refine Ns ?_
 refine Pu (pt g21 0) (PO.fieldAddr fo67_0 rfl rfl) rfl ?_
 refine Pu (.int .i64 a0.Kind) (PO.loadB 0 pl3 rfl rfl rfl) rfl ?_
 refine Pa (.int .i64 a0.Kind) rfl rfl ?_
 refine Ns ?_
 refine Pm (.int .i64 a0.Kind) rfl rfl ?_
 refine Pu (.int .u8 (IntKind.u8.wrap a0.Kind)) (PO.conv us3 Tryz.underlying5 rfl) rfl ?_
 refine WL.eff (EO.buildSliceL (cl := [(.int .u8 (IntKind.u8.wrap a0.Kind))]) Tryz.underlying40 iz5 rfl (Parts.cons (congrArg Value.cells (show ev _ _ = (.int .u8 (IntKind.u8.wrap a0.Kind)) from rfl)) Parts.nil) rfl) rfl ?_
 rintro _ _ _ - ⟨rfl, g22, rfl, rfl⟩
 have h24 : OwnS (Kd.int .u8) M (.slice (some ⟨g22, 0, none⟩) 1 1) [IntKind.u8.wrap a0.Kind] [(g22, .cells #[(.int .u8 (IntKind.u8.wrap a0.Kind))] 5 (0, 0))] := OwnS.rows (css := [[(.int .u8 (IntKind.u8.wrap a0.Kind))]]) (Rows.cons rfl Rows.nil) rfl rfl
 refine Pa (.slice (some ⟨g22, 0, none⟩) 1 1) rfl rfl ?_
 refine Nt ?_
 refine WC.seq ?_
 refine WC.draw [0, 0, 2, 0, 8, 30, 63, 127] (.pure 0 (.pure 1 (.pure 2 (.pure 3 (.alt 4 (.alt 5 (.alt 6 (.alt 7 .done .none) .none) .none) .none))))) mixed (by kernel_rfl) ?_
 refine Tp (.slice (some ⟨g22, 0, none⟩) 1 1) rfl (PO.move rfl) rfl ?_
 refine Tp (pt g21 1) rfl (PO.fieldAddr fo67_1 rfl rfl) rfl ?_
 refine Tp (.int .i64 a0.Broker) rfl (PO.loadB 1 pl3 rfl rfl rfl) rfl ?_
 refine Tp (.int .i64 a0.Kind) rfl (PO.move rfl) rfl ?_
 obtain ⟨r25, hr26, h⟩ := bnd h
 refine WT.alt rfl (EO.call0 co61 (f_ref05_has_ok a0.Kind (98 : Int) _ r25 hr26) (args2 rfl rfl)) rfl ?_ ?_
 rintro _ M27 _ hle28 ⟨_, ⟨rfl, rfl⟩, rfl⟩
 have h24 := h24.mono hle28
 have h0_14 := h0_14.mono hle28
 have h0_15 := h0_15.mono hle28
 have h0_16 := h0_16.mono hle28
 have h0_17 := h0_17.mono hle28
 refine ⟨(StabL.anc rfl (StabL.st (StabA.of rfl (PO.loadB 1 pl3 rfl rfl rfl) rfl) (StabL.st (StabA.of rfl (PO.fieldAddr fo67_1 rfl rfl) rfl) (StabL.st (StabA.of rfl (PO.move rfl) rfl) trivial)))), ?_⟩
 refine WT.a0 ?_
 obtain ⟨r30, hr31, h⟩ := bnd h
 refine WT.alt rfl (EO.call0 co103 (f_ref05_int1_ok a0.Broker r25 _ r30 hr31) (args2 rfl rfl)) rfl ?_ ?_
 rintro _ M32 _ hle33 ⟨_, ⟨vq34, cq34, rfl, rfl, hq34⟩, rfl⟩
 have h24 := h24.mono hle33
 have h0_14 := h0_14.mono hle33
 have h0_15 := h0_15.mono hle33
 have h0_16 := h0_16.mono hle33
 have h0_17 := h0_17.mono hle33
 refine ⟨(StabL.anc rfl (StabL.anc rfl (StabL.anc rfl (StabL.st (StabA.of rfl (PO.move rfl) rfl) trivial)))), ?_⟩
 refine WT.a1 ?_
 obtain ⟨hg38, h⟩ := grd_i h
 refine WT.f1 ?_
 refine WT.alt rfl (EO.append (dd := (Kd.int .u8)) (xs := [IntKind.u8.wrap a0.Kind]) (ys := r30) Tryz.underlying40 Tryz.underlying40 in5 rfl (appB (by decide) hg38) (by decide) rfl rfl h24 (hq34.src 1 rfl)) rfl ?_ ?_
 rintro v37 _ _ - ⟨rfl, c35, rfl, h36⟩
 refine ⟨(StabL.anc rfl (StabL.anc rfl (StabL.anc rfl (StabL.anc rfl trivial)))), ?_⟩
 refine WT.alt rfl ((PO.assign rfl).eo) rfl ?_ ?_
 rintro _ _ _ - ⟨rfl, rfl, rfl⟩
 refine ⟨(StabL.anc rfl (StabL.anc rfl (StabL.anc rfl (StabL.anc rfl trivial)))), ?_⟩
 refine WT.fin ?_
 refine WQ.thenC ?_
 refine WC.seq ?_
 refine WC.draw [0, 0, 2, 0, 8, 30, 63, 127] (.pure 0 (.pure 1 (.pure 2 (.pure 3 (.alt 4 (.alt 5 (.alt 6 (.alt 7 .done .none) .none) .none) .none))))) mixed (by kernel_rfl) ?_
 refine Tp v37 rfl (PO.move rfl) rfl ?_
 refine Tp (pt g21 2) rfl (PO.fieldAddr fo67_2 rfl rfl) rfl ?_
 refine Tp (.int .i64 a0.Epoch) rfl (PO.loadB 2 pl3 rfl rfl rfl) rfl ?_
 refine Tp (.int .i64 a0.Kind) rfl (PO.move rfl) rfl ?_
 obtain ⟨r39, hr40, h⟩ := bnd h
 refine WT.alt rfl (EO.call0 co61 (f_ref05_has_ok a0.Kind (101 : Int) _ r39 hr40) (args2 rfl rfl)) rfl ?_ ?_
 rintro _ M41 _ hle42 ⟨_, ⟨rfl, rfl⟩, rfl⟩
 have h36 := h36.mono hle42
 have h0_14 := h0_14.mono hle42
 have h0_15 := h0_15.mono hle42
 have h0_16 := h0_16.mono hle42
 have h0_17 := h0_17.mono hle42
 refine ⟨(StabL.anc rfl (StabL.st (StabA.of rfl (PO.loadB 2 pl3 rfl rfl rfl) rfl) (StabL.st (StabA.of rfl (PO.fieldAddr fo67_2 rfl rfl) rfl) (StabL.st (StabA.of rfl (PO.move rfl) rfl) trivial)))), ?_⟩
 refine WT.a0 ?_
 obtain ⟨r44, hr45, h⟩ := bnd h
 refine WT.alt rfl (EO.call0 co103 (f_ref05_int1_ok a0.Epoch r39 _ r44 hr45) (args2 rfl rfl)) rfl ?_ ?_
 rintro _ M46 _ hle47 ⟨_, ⟨vq48, cq48, rfl, rfl, hq48⟩, rfl⟩
 have h36 := h36.mono hle47
 have h0_14 := h0_14.mono hle47
 have h0_15 := h0_15.mono hle47
 have h0_16 := h0_16.mono hle47
 have h0_17 := h0_17.mono hle47
 refine ⟨(StabL.anc rfl (StabL.anc rfl (StabL.anc rfl (StabL.st (StabA.of rfl (PO.move rfl) rfl) trivial)))), ?_⟩
 refine WT.a1 ?_
 obtain ⟨hg52, h⟩ := grd_i h
 refine WT.f1 ?_
 refine WT.alt rfl (EO.append (dd := (Kd.int .u8)) (xs := [IntKind.u8.wrap a0.Kind] ++ r30) (ys := r44) Tryz.underlying40 Tryz.underlying40 in5 rfl (appB (by decide) hg52) (by decide) rfl rfl h36 (hq48.src 1 rfl)) rfl ?_ ?_
 rintro v51 _ _ - ⟨rfl, c49, rfl, h50⟩
 refine ⟨(StabL.anc rfl (StabL.anc rfl (StabL.anc rfl (StabL.anc rfl trivial)))), ?_⟩
 refine WT.alt rfl ((PO.assign rfl).eo) rfl ?_ ?_
 rintro _ _ _ - ⟨rfl, rfl, rfl⟩
 refine ⟨(StabL.anc rfl (StabL.anc rfl (StabL.anc rfl (StabL.anc rfl trivial)))), ?_⟩
 refine WT.fin ?_
 refine WQ.thenC ?_
 refine WC.seq ?_
 refine WC.draw [0, 0, 2, 0, 8, 30, 63, 127] (.pure 0 (.pure 1 (.pure 2 (.pure 3 (.alt 4 (.alt 5 (.alt 6 (.alt 7 .done .none) .none) .none) .none))))) mixed (by kernel_rfl) ?_
 refine Tp v51 rfl (PO.move rfl) rfl ?_
 refine Tp (pt g21 3) rfl (PO.fieldAddr fo67_3 rfl rfl) rfl ?_
 refine Tp (.int .i64 a0.Topic) rfl (PO.loadB 3 pl3 rfl rfl rfl) rfl ?_
 refine Tp (.int .i64 a0.Kind) rfl (PO.move rfl) rfl ?_
 obtain ⟨r53, hr54, h⟩ := bnd h
 refine WT.alt rfl (EO.call0 co61 (f_ref05_has_ok a0.Kind (116 : Int) _ r53 hr54) (args2 rfl rfl)) rfl ?_ ?_
 rintro _ M55 _ hle56 ⟨_, ⟨rfl, rfl⟩, rfl⟩
 have h50 := h50.mono hle56
 have h0_14 := h0_14.mono hle56
 have h0_15 := h0_15.mono hle56
 have h0_16 := h0_16.mono hle56
 have h0_17 := h0_17.mono hle56
 refine ⟨(StabL.anc rfl (StabL.st (StabA.of rfl (PO.loadB 3 pl3 rfl rfl rfl) rfl) (StabL.st (StabA.of rfl (PO.fieldAddr fo67_3 rfl rfl) rfl) (StabL.st (StabA.of rfl (PO.move rfl) rfl) trivial)))), ?_⟩
 refine WT.a0 ?_
 obtain ⟨r58, hr59, h⟩ := bnd h
 refine WT.alt rfl (EO.call0 co103 (f_ref05_int1_ok a0.Topic r53 _ r58 hr59) (args2 rfl rfl)) rfl ?_ ?_
 rintro _ M60 _ hle61 ⟨_, ⟨vq62, cq62, rfl, rfl, hq62⟩, rfl⟩
 have h50 := h50.mono hle61
 have h0_14 := h0_14.mono hle61
 have h0_15 := h0_15.mono hle61
 have h0_16 := h0_16.mono hle61
 have h0_17 := h0_17.mono hle61
 refine ⟨(StabL.anc rfl (StabL.anc rfl (StabL.anc rfl (StabL.st (StabA.of rfl (PO.move rfl) rfl) trivial)))), ?_⟩
 refine WT.a1 ?_
 obtain ⟨hg66, h⟩ := grd_i h
 refine WT.f1 ?_
 refine WT.alt rfl (EO.append (dd := (Kd.int .u8)) (xs := ([IntKind.u8.wrap a0.Kind] ++ r30) ++ r44) (ys := r58) Tryz.underlying40 Tryz.underlying40 in5 rfl (appB (by decide) hg66) (by decide) rfl rfl h50 (hq62.src 1 rfl)) rfl ?_ ?_
 rintro v65 _ _ - ⟨rfl, c63, rfl, h64⟩
 refine ⟨(StabL.anc rfl (StabL.anc rfl (StabL.anc rfl (StabL.anc rfl trivial)))), ?_⟩
 refine WT.alt rfl ((PO.assign rfl).eo) rfl ?_ ?_
 rintro _ _ _ - ⟨rfl, rfl, rfl⟩
 refine ⟨(StabL.anc rfl (StabL.anc rfl (StabL.anc rfl (StabL.anc rfl trivial)))), ?_⟩
 refine WT.fin ?_
 refine WQ.thenC ?_
 refine WC.seq ?_
 refine WC.draw [0, 0, 2, 0, 8, 30, 63, 127] (.pure 0 (.pure 1 (.pure 2 (.pure 3 (.alt 4 (.alt 5 (.alt 6 (.alt 7 .done .none) .none) .none) .none))))) mixed (by kernel_rfl) ?_
 refine Tp v65 rfl (PO.move rfl) rfl ?_
 refine Tp (pt g21 4) rfl (PO.fieldAddr fo67_4 rfl rfl) rfl ?_
 refine Tp (.int .i64 a0.Part) rfl (PO.loadB 4 pl3 rfl rfl rfl) rfl ?_
 refine Tp (.int .i64 a0.Kind) rfl (PO.move rfl) rfl ?_
 obtain ⟨r67, hr68, h⟩ := bnd h
 refine WT.alt rfl (EO.call0 co61 (f_ref05_has_ok a0.Kind (112 : Int) _ r67 hr68) (args2 rfl rfl)) rfl ?_ ?_
 rintro _ M69 _ hle70 ⟨_, ⟨rfl, rfl⟩, rfl⟩
 have h64 := h64.mono hle70
 have h0_14 := h0_14.mono hle70
 have h0_15 := h0_15.mono hle70
 have h0_16 := h0_16.mono hle70
 have h0_17 := h0_17.mono hle70
 refine ⟨(StabL.anc rfl (StabL.st (StabA.of rfl (PO.loadB 4 pl3 rfl rfl rfl) rfl) (StabL.st (StabA.of rfl (PO.fieldAddr fo67_4 rfl rfl) rfl) (StabL.st (StabA.of rfl (PO.move rfl) rfl) trivial)))), ?_⟩
 refine WT.a0 ?_
 obtain ⟨r72, hr73, h⟩ := bnd h
 refine WT.alt rfl (EO.call0 co103 (f_ref05_int1_ok a0.Part r67 _ r72 hr73) (args2 rfl rfl)) rfl ?_ ?_
 rintro _ M74 _ hle75 ⟨_, ⟨vq76, cq76, rfl, rfl, hq76⟩, rfl⟩
 have h64 := h64.mono hle75
 have h0_14 := h0_14.mono hle75
 have h0_15 := h0_15.mono hle75
 have h0_16 := h0_16.mono hle75
 have h0_17 := h0_17.mono hle75
 refine ⟨(StabL.anc rfl (StabL.anc rfl (StabL.anc rfl (StabL.st (StabA.of rfl (PO.move rfl) rfl) trivial)))), ?_⟩
 refine WT.a1 ?_
 obtain ⟨hg80, h⟩ := grd_i h
 refine WT.f1 ?_
 refine WT.alt rfl (EO.append (dd := (Kd.int .u8)) (xs := (([IntKind.u8.wrap a0.Kind] ++ r30) ++ r44) ++ r58) (ys := r72) Tryz.underlying40 Tryz.underlying40 in5 rfl (appB (by decide) hg80) (by decide) rfl rfl h64 (hq76.src 1 rfl)) rfl ?_ ?_
 rintro v79 _ _ - ⟨rfl, c77, rfl, h78⟩
 refine ⟨(StabL.anc rfl (StabL.anc rfl (StabL.anc rfl (StabL.anc rfl trivial)))), ?_⟩
 refine WT.alt rfl ((PO.assign rfl).eo) rfl ?_ ?_
 rintro _ _ _ - ⟨rfl, rfl, rfl⟩
 refine ⟨(StabL.anc rfl (StabL.anc rfl (StabL.anc rfl (StabL.anc rfl trivial)))), ?_⟩
 refine WT.fin ?_
 refine WQ.thenC ?_
 refine WC.seq ?_
 refine WC.draw [0, 0, 2, 0, 8, 30, 63, 127] (.pure 0 (.pure 1 (.pure 2 (.pure 3 (.alt 4 (.alt 5 (.alt 6 (.alt 7 .done .none) .none) .none) .none))))) mixed (by kernel_rfl) ?_
 refine Tp v79 rfl (PO.move rfl) rfl ?_
 refine Tp (pt g21 5) rfl (PO.fieldAddr fo67_5 rfl rfl) rfl ?_
 refine Tp (.int .i64 a0.Leader) rfl (PO.loadB 5 pl3 rfl rfl rfl) rfl ?_
 refine Tp (.int .i64 a0.Kind) rfl (PO.move rfl) rfl ?_
 obtain ⟨r81, hr82, h⟩ := bnd h
 refine WT.alt rfl (EO.call0 co61 (f_ref05_has_ok a0.Kind (108 : Int) _ r81 hr82) (args2 rfl rfl)) rfl ?_ ?_
 rintro _ M83 _ hle84 ⟨_, ⟨rfl, rfl⟩, rfl⟩
 have h78 := h78.mono hle84
 have h0_14 := h0_14.mono hle84
 have h0_15 := h0_15.mono hle84
 have h0_16 := h0_16.mono hle84
 have h0_17 := h0_17.mono hle84
 refine ⟨(StabL.anc rfl (StabL.st (StabA.of rfl (PO.loadB 5 pl3 rfl rfl rfl) rfl) (StabL.st (StabA.of rfl (PO.fieldAddr fo67_5 rfl rfl) rfl) (StabL.st (StabA.of rfl (PO.move rfl) rfl) trivial)))), ?_⟩
 refine WT.a0 ?_
 obtain ⟨r86, hr87, h⟩ := bnd h
 refine WT.alt rfl (EO.call0 co103 (f_ref05_int1_ok a0.Leader r81 _ r86 hr87) (args2 rfl rfl)) rfl ?_ ?_
 rintro _ M88 _ hle89 ⟨_, ⟨vq90, cq90, rfl, rfl, hq90⟩, rfl⟩
 have h78 := h78.mono hle89
 have h0_14 := h0_14.mono hle89
 have h0_15 := h0_15.mono hle89
 have h0_16 := h0_16.mono hle89
 have h0_17 := h0_17.mono hle89
 refine ⟨(StabL.anc rfl (StabL.anc rfl (StabL.anc rfl (StabL.st (StabA.of rfl (PO.move rfl) rfl) trivial)))), ?_⟩
 refine WT.a1 ?_
 obtain ⟨hg94, h⟩ := grd_i h
 refine WT.f1 ?_
 refine WT.alt rfl (EO.append (dd := (Kd.int .u8)) (xs := ((([IntKind.u8.wrap a0.Kind] ++ r30) ++ r44) ++ r58) ++ r72) (ys := r86) Tryz.underlying40 Tryz.underlying40 in5 rfl (appB (by decide) hg94) (by decide) rfl rfl h78 (hq90.src 1 rfl)) rfl ?_ ?_
 rintro v93 _ _ - ⟨rfl, c91, rfl, h92⟩
 refine ⟨(StabL.anc rfl (StabL.anc rfl (StabL.anc rfl (StabL.anc rfl trivial)))), ?_⟩
 refine WT.alt rfl ((PO.assign rfl).eo) rfl ?_ ?_
 rintro _ _ _ - ⟨rfl, rfl, rfl⟩
 refine ⟨(StabL.anc rfl (StabL.anc rfl (StabL.anc rfl (StabL.anc rfl trivial)))), ?_⟩
 refine WT.fin ?_
 refine WQ.thenC ?_
 refine WC.seq ?_
 refine WC.draw [0, 0, 2, 0, 8, 30, 63, 127] (.pure 0 (.pure 1 (.pure 2 (.pure 3 (.alt 4 (.alt 5 (.alt 6 (.alt 7 .done .none) .none) .none) .none))))) mixed (by kernel_rfl) ?_
 refine Tp v93 rfl (PO.move rfl) rfl ?_
 refine Tp (pt g21 6) rfl (PO.fieldAddr fo67_6 rfl rfl) rfl ?_
 refine Tp (.int .i64 a0.Client) rfl (PO.loadB 6 pl3 rfl rfl rfl) rfl ?_
 refine Tp (.int .i64 a0.Kind) rfl (PO.move rfl) rfl ?_
 obtain ⟨r95, hr96, h⟩ := bnd h
 refine WT.alt rfl (EO.call0 co61 (f_ref05_has_ok a0.Kind (97 : Int) _ r95 hr96) (args2 rfl rfl)) rfl ?_ ?_
 rintro _ M97 _ hle98 ⟨_, ⟨rfl, rfl⟩, rfl⟩
 have h92 := h92.mono hle98
 have h0_14 := h0_14.mono hle98
 have h0_15 := h0_15.mono hle98
 have h0_16 := h0_16.mono hle98
 have h0_17 := h0_17.mono hle98
 refine ⟨(StabL.anc rfl (StabL.st (StabA.of rfl (PO.loadB 6 pl3 rfl rfl rfl) rfl) (StabL.st (StabA.of rfl (PO.fieldAddr fo67_6 rfl rfl) rfl) (StabL.st (StabA.of rfl (PO.move rfl) rfl) trivial)))), ?_⟩
 refine WT.a0 ?_
 obtain ⟨r100, hr101, h⟩ := bnd h
 refine WT.alt rfl (EO.call0 co103 (f_ref05_int1_ok a0.Client r95 _ r100 hr101) (args2 rfl rfl)) rfl ?_ ?_
 rintro _ M102 _ hle103 ⟨_, ⟨vq104, cq104, rfl, rfl, hq104⟩, rfl⟩
 have h92 := h92.mono hle103
 have h0_14 := h0_14.mono hle103
 have h0_15 := h0_15.mono hle103
 have h0_16 := h0_16.mono hle103
 have h0_17 := h0_17.mono hle103
 refine ⟨(StabL.anc rfl (StabL.anc rfl (StabL.anc rfl (StabL.st (StabA.of rfl (PO.move rfl) rfl) trivial)))), ?_⟩
 refine WT.a1 ?_
 obtain ⟨hg108, h⟩ := grd_i h
 refine WT.f1 ?_
 refine WT.alt rfl (EO.append (dd := (Kd.int .u8)) (xs := (((([IntKind.u8.wrap a0.Kind] ++ r30) ++ r44) ++ r58) ++ r72) ++ r86) (ys := r100) Tryz.underlying40 Tryz.underlying40 in5 rfl (appB (by decide) hg108) (by decide) rfl rfl h92 (hq104.src 1 rfl)) rfl ?_ ?_
 rintro v107 _ _ - ⟨rfl, c105, rfl, h106⟩
 refine ⟨(StabL.anc rfl (StabL.anc rfl (StabL.anc rfl (StabL.anc rfl trivial)))), ?_⟩
 refine WT.alt rfl ((PO.assign rfl).eo) rfl ?_ ?_
 rintro _ _ _ - ⟨rfl, rfl, rfl⟩
 refine ⟨(StabL.anc rfl (StabL.anc rfl (StabL.anc rfl (StabL.anc rfl trivial)))), ?_⟩
 refine WT.fin ?_
 refine WQ.thenC ?_
 refine WC.seq ?_
 refine WC.draw [0, 0, 2, 0, 8, 30, 63, 127] (.pure 0 (.pure 1 (.pure 2 (.pure 3 (.alt 4 (.alt 5 (.alt 6 (.alt 7 .done .none) .none) .none) .none))))) mixed (by kernel_rfl) ?_
 refine Tp v107 rfl (PO.move rfl) rfl ?_
 refine Tp (pt g21 7) rfl (PO.fieldAddr fo67_7 rfl rfl) rfl ?_
 refine Tp (.int .i64 a0.Serial) rfl (PO.loadB 7 pl3 rfl rfl rfl) rfl ?_
 refine Tp (.int .i64 a0.Kind) rfl (PO.move rfl) rfl ?_
 obtain ⟨r109, hr110, h⟩ := bnd h
 refine WT.alt rfl (EO.call0 co61 (f_ref05_has_ok a0.Kind (97 : Int) _ r109 hr110) (args2 rfl rfl)) rfl ?_ ?_
 rintro _ M111 _ hle112 ⟨_, ⟨rfl, rfl⟩, rfl⟩
 have h106 := h106.mono hle112
 have h0_14 := h0_14.mono hle112
 have h0_15 := h0_15.mono hle112
 have h0_16 := h0_16.mono hle112
 have h0_17 := h0_17.mono hle112
 refine ⟨(StabL.anc rfl (StabL.st (StabA.of rfl (PO.loadB 7 pl3 rfl rfl rfl) rfl) (StabL.st (StabA.of rfl (PO.fieldAddr fo67_7 rfl rfl) rfl) (StabL.st (StabA.of rfl (PO.move rfl) rfl) trivial)))), ?_⟩
 refine WT.a0 ?_
 obtain ⟨r114, hr115, h⟩ := bnd h
 refine WT.alt rfl (EO.call0 co103 (f_ref05_int1_ok a0.Serial r109 _ r114 hr115) (args2 rfl rfl)) rfl ?_ ?_
 rintro _ M116 _ hle117 ⟨_, ⟨vq118, cq118, rfl, rfl, hq118⟩, rfl⟩
 have h106 := h106.mono hle117
 have h0_14 := h0_14.mono hle117
 have h0_15 := h0_15.mono hle117
 have h0_16 := h0_16.mono hle117
 have h0_17 := h0_17.mono hle117
 refine ⟨(StabL.anc rfl (StabL.anc rfl (StabL.anc rfl (StabL.st (StabA.of rfl (PO.move rfl) rfl) trivial)))), ?_⟩
 refine WT.a1 ?_
 obtain ⟨hg122, h⟩ := grd_i h
 refine WT.f1 ?_
 refine WT.alt rfl (EO.append (dd := (Kd.int .u8)) (xs := ((((([IntKind.u8.wrap a0.Kind] ++ r30) ++ r44) ++ r58) ++ r72) ++ r86) ++ r100) (ys := r114) Tryz.underlying40 Tryz.underlying40 in5 rfl (appB (by decide) hg122) (by decide) rfl rfl h106 (hq118.src 1 rfl)) rfl ?_ ?_
 rintro v121 _ _ - ⟨rfl, c119, rfl, h120⟩
 refine ⟨(StabL.anc rfl (StabL.anc rfl (StabL.anc rfl (StabL.anc rfl trivial)))), ?_⟩
 refine WT.alt rfl ((PO.assign rfl).eo) rfl ?_ ?_
 rintro _ _ _ - ⟨rfl, rfl, rfl⟩
 refine ⟨(StabL.anc rfl (StabL.anc rfl (StabL.anc rfl (StabL.anc rfl trivial)))), ?_⟩
 refine WT.fin ?_
 refine WQ.thenC ?_
 refine WC.seq ?_
 refine WC.draw [0, 0, 2, 0, 8, 30, 63, 127] (.pure 0 (.pure 1 (.pure 2 (.pure 3 (.alt 4 (.alt 5 (.alt 6 (.alt 7 .done .none) .none) .none) .none))))) mixed (by kernel_rfl) ?_
 refine Tp v121 rfl (PO.move rfl) rfl ?_
 refine Tp (pt g21 8) rfl (PO.fieldAddr fo67_8 rfl rfl) rfl ?_
 refine Tp (.int .i64 a0.Code) rfl (PO.loadB 8 pl3 rfl rfl rfl) rfl ?_
 refine Tp (.int .i64 a0.Kind) rfl (PO.move rfl) rfl ?_
 obtain ⟨r123, hr124, h⟩ := bnd h
 refine WT.alt rfl (EO.call0 co61 (f_ref05_has_ok a0.Kind (97 : Int) _ r123 hr124) (args2 rfl rfl)) rfl ?_ ?_
 rintro _ M125 _ hle126 ⟨_, ⟨rfl, rfl⟩, rfl⟩
 have h120 := h120.mono hle126
 have h0_14 := h0_14.mono hle126
 have h0_15 := h0_15.mono hle126
 have h0_16 := h0_16.mono hle126
 have h0_17 := h0_17.mono hle126
 refine ⟨(StabL.anc rfl (StabL.st (StabA.of rfl (PO.loadB 8 pl3 rfl rfl rfl) rfl) (StabL.st (StabA.of rfl (PO.fieldAddr fo67_8 rfl rfl) rfl) (StabL.st (StabA.of rfl (PO.move rfl) rfl) trivial)))), ?_⟩
 refine WT.a0 ?_
 obtain ⟨r128, hr129, h⟩ := bnd h
 refine WT.alt rfl (EO.call0 co103 (f_ref05_int1_ok a0.Code r123 _ r128 hr129) (args2 rfl rfl)) rfl ?_ ?_
 rintro _ M130 _ hle131 ⟨_, ⟨vq132, cq132, rfl, rfl, hq132⟩, rfl⟩
 have h120 := h120.mono hle131
 have h0_14 := h0_14.mono hle131
 have h0_15 := h0_15.mono hle131
 have h0_16 := h0_16.mono hle131
 have h0_17 := h0_17.mono hle131
 refine ⟨(StabL.anc rfl (StabL.anc rfl (StabL.anc rfl (StabL.st (StabA.of rfl (PO.move rfl) rfl) trivial)))), ?_⟩
 refine WT.a1 ?_
 obtain ⟨hg136, h⟩ := grd_i h
 refine WT.f1 ?_
 refine WT.alt rfl (EO.append (dd := (Kd.int .u8)) (xs := (((((([IntKind.u8.wrap a0.Kind] ++ r30) ++ r44) ++ r58) ++ r72) ++ r86) ++ r100) ++ r114) (ys := r128) Tryz.underlying40 Tryz.underlying40 in5 rfl (appB (by decide) hg136) (by decide) rfl rfl h120 (hq132.src 1 rfl)) rfl ?_ ?_
 rintro v135 _ _ - ⟨rfl, c133, rfl, h134⟩
 refine ⟨(StabL.anc rfl (StabL.anc rfl (StabL.anc rfl (StabL.anc rfl trivial)))), ?_⟩
 refine WT.alt rfl ((PO.assign rfl).eo) rfl ?_ ?_
 rintro _ _ _ - ⟨rfl, rfl, rfl⟩
 refine ⟨(StabL.anc rfl (StabL.anc rfl (StabL.anc rfl (StabL.anc rfl trivial)))), ?_⟩
 refine WT.fin ?_
 refine WQ.thenC ?_
 obtain ⟨x137, hj138, h⟩ := bnd h
 refine WC.joinF (fun (x137 : (List Int)) ρ' M' H' => ∃ vx137 cx137, M130.le M' ∧ [(g21, .cells (l67 a0 v0_14 v0_15 v0_16 v0_17).toArray 67 (0, 0))] :: cx137 :: F = H' ∧ ρ' 1 = (pt g21 0) ∧ ρ' 3 = (.int .i64 a0.Kind) ∧ ρ' 4 = vx137 ∧ OwnS (Kd.int .u8) M' vx137 x137 cx137) x137 ?_ ?_
 have h3138 := h
 have h := hj138
 refine Sr ?_
 refine Pm (.int .i64 a0.Kind) rfl rfl ?_
 obtain ⟨r139, hr140, h⟩ := bnd h
 refine WL.eff (EO.call0 co61 (f_ref05_has_ok a0.Kind (102 : Int) _ r139 hr140) (args2 rfl rfl)) rfl ?_
 rintro _ M141 _ hle142 ⟨_, ⟨rfl, rfl⟩, rfl⟩
 have h134 := h134.mono hle142
 have h0_14 := h0_14.mono hle142
 have h0_15 := h0_15.mono hle142
 have h0_16 := h0_16.mono hle142
 have h0_17 := h0_17.mono hle142
 refine WL.a0 ?_
 refine Nt ?_
 refine WC.cond (b := r139) rfl (fun hb144 => ?_) (fun hb144 => ?_)
 have h := ite_t hb144 h
 refine WC.region ?_
 refine Pm v135 rfl rfl ?_
 refine Pu (pt g21 9) (PO.fieldAddr fo67_9 rfl rfl) rfl ?_
 refine Pu (.bool a0.Flag) (PO.loadB 9 pl4 rfl rfl rfl) rfl ?_
 obtain ⟨r145, hr146, h⟩ := bnd h
 refine WL.eff (EO.call0 co104 (f_ref02_Flag_ok a0.Flag _ r145 hr146) (args1 rfl)) rfl ?_
 rintro _ M147 _ hle148 ⟨_, ⟨vq149, cq149, rfl, rfl, hq149⟩, rfl⟩
 have h134 := h134.mono hle148
 have h0_14 := h0_14.mono hle148
 have h0_15 := h0_15.mono hle148
 have h0_16 := h0_16.mono hle148
 have h0_17 := h0_17.mono hle148
 refine WL.a1 ?_
 obtain ⟨hg153, h⟩ := grd_i h
 refine WL.f1 ?_
 refine WL.eff (EO.append (dd := (Kd.int .u8)) (xs := ((((((([IntKind.u8.wrap a0.Kind] ++ r30) ++ r44) ++ r58) ++ r72) ++ r86) ++ r100) ++ r114) ++ r128) (ys := r145) Tryz.underlying40 Tryz.underlying40 in5 rfl (appB (by decide) hg153) (by decide) rfl rfl h134 (hq149.src 1 rfl)) rfl ?_
 rintro v152 _ _ - ⟨rfl, c150, rfl, h151⟩
 refine Pa v152 rfl rfl ?_
 refine WL.nil ?_
 refine WQ.f1 ?_
 refine WQ.drop ?_
 refine WQ.f1 ?_
 refine WQ.drop ?_
 refine WQ.f1 ?_
 refine WQ.drop ?_
 refine WQ.f1 ?_
 refine WQ.drop ?_
 refine WQ.f1 ?_
 refine WQ.drop ?_
 refine WQ.f1 ?_
 refine WQ.drop ?_
 refine WQ.f1 ?_
 refine WQ.drop ?_
 refine WQ.f1 ?_
 refine WQ.drop ?_
 refine WQ.f1 ?_
 refine WQ.drop ?_
 refine WQ.f1 ?_
 obtain rfl := Option.some.inj h
 refine WQ.thenJ ?_
 exact ⟨v152, c150, (hle142.trans hle148), rfl, rfl, rfl, rfl, h151⟩
 have h := ite_f hb144 h
 refine WC.skip ?_
 refine WQ.f1 ?_
 refine WQ.drop ?_
 refine WQ.f1 ?_
 refine WQ.drop ?_
 refine WQ.f1 ?_
 refine WQ.drop ?_
 refine WQ.f1 ?_
 refine WQ.drop ?_
 refine WQ.f1 ?_
 refine WQ.drop ?_
 refine WQ.f1 ?_
 refine WQ.drop ?_
 refine WQ.f1 ?_
 refine WQ.drop ?_
 refine WQ.f1 ?_
 refine WQ.drop ?_
 refine WQ.f1 ?_
 obtain rfl := Option.some.inj h
 refine WQ.thenJ ?_
 exact ⟨v135, c133, hle142, rfl, rfl, rfl, rfl, h134⟩
 rintro ρ138 M138 H138 ⟨vx137, cx137, hle138, rfl, hs138_1, hs138_3, hs138_4, hx137⟩
 have h0_14 := h0_14.mono hle138
 have h0_15 := h0_15.mono hle138
 have h0_16 := h0_16.mono hle138
 have h0_17 := h0_17.mono hle138
 refine WC.seq ?_
 refine WC.draw [0, 0, 2, 0, 8, 30, 63, 127] (.pure 0 (.pure 1 (.pure 2 (.pure 3 (.alt 4 (.alt 5 (.alt 6 (.alt 7 .done .none) .none) .none) .none))))) mixed (by kernel_rfl) ?_
 refine Tp vx137 rfl (PO.move hs138_4) rfl ?_
 refine Tp (pt g21 10) rfl (PO.fieldAddr fo67_10 hs138_1 rfl) rfl ?_
 refine Tp (.string a0.Name) rfl (PO.loadB 0 pl9 rfl rfl rfl) rfl ?_
 refine Tp (.int .i64 a0.Kind) rfl (PO.move hs138_3) rfl ?_
 obtain ⟨r154, hr155, h⟩ := bnd h
 refine WT.alt rfl (EO.call0 co61 (f_ref05_has_ok a0.Kind (110 : Int) _ r154 hr155) (args2 rfl rfl)) rfl ?_ ?_
 rintro _ M156 _ hle157 ⟨_, ⟨rfl, rfl⟩, rfl⟩
 have hx137 := hx137.mono hle157
 have h0_14 := h0_14.mono hle157
 have h0_15 := h0_15.mono hle157
 have h0_16 := h0_16.mono hle157
 have h0_17 := h0_17.mono hle157
 refine ⟨(StabL.anc rfl (StabL.st (StabA.of rfl (PO.loadB 0 pl9 rfl rfl rfl) rfl) (StabL.st (StabA.of rfl (PO.fieldAddr fo67_10 hs138_1 rfl) rfl) (StabL.st (StabA.of rfl (PO.move hs138_4) rfl) trivial)))), ?_⟩
 refine WT.a0 ?_
 obtain ⟨r159, hr160, h⟩ := bnd h
 refine WT.alt rfl (EO.call0 co105 (f_ref05_text1_ok a0.Name r154 _ r159 hr160) (args2 rfl rfl)) rfl ?_ ?_
 rintro _ M161 _ hle162 ⟨_, ⟨vq163, cq163, rfl, rfl, hq163⟩, rfl⟩
 have hx137 := hx137.mono hle162
 have h0_14 := h0_14.mono hle162
 have h0_15 := h0_15.mono hle162
 have h0_16 := h0_16.mono hle162
 have h0_17 := h0_17.mono hle162
 refine ⟨(StabL.anc rfl (StabL.anc rfl (StabL.anc rfl (StabL.st (StabA.of rfl (PO.move hs138_4) rfl) trivial)))), ?_⟩
 refine WT.a1 ?_
 obtain ⟨hg167, h⟩ := grd_i h
 refine WT.f2 ?_
 refine WT.alt rfl (EO.append (dd := (Kd.int .u8)) (xs := x137) (ys := r159) Tryz.underlying40 Tryz.underlying40 in5 rfl (appB (by decide) hg167) (by decide) rfl rfl hx137 (hq163.src 1 rfl)) rfl ?_ ?_
 rintro v166 _ _ - ⟨rfl, c164, rfl, h165⟩
 refine ⟨(StabL.anc rfl (StabL.anc rfl (StabL.anc rfl (StabL.anc rfl trivial)))), ?_⟩
 refine WT.alt rfl ((PO.assign rfl).eo) rfl ?_ ?_
 rintro _ _ _ - ⟨rfl, rfl, rfl⟩
 refine ⟨(StabL.anc rfl (StabL.anc rfl (StabL.anc rfl (StabL.anc rfl trivial)))), ?_⟩
 refine WT.fin ?_
 refine WQ.thenC ?_
 refine WC.seq ?_
 refine WC.draw [0, 0, 2, 0, 8, 30, 63, 127] (.pure 0 (.pure 1 (.pure 2 (.pure 3 (.alt 4 (.alt 5 (.alt 6 (.alt 7 .done .none) .none) .none) .none))))) mixed (by kernel_rfl) ?_
 refine Tp v166 rfl (PO.move rfl) rfl ?_
 refine Tp (pt g21 11) rfl (PO.fieldAddr fo67_11 hs138_1 rfl) rfl ?_
 refine Tp (.string a0.Key) rfl (PO.loadB 2 pl9 rfl rfl rfl) rfl ?_
 refine Tp (.int .i64 a0.Kind) rfl (PO.move hs138_3) rfl ?_
 obtain ⟨r168, hr169, h⟩ := bnd h
 refine WT.alt rfl (EO.call0 co61 (f_ref05_has_ok a0.Kind (107 : Int) _ r168 hr169) (args2 rfl rfl)) rfl ?_ ?_
 rintro _ M170 _ hle171 ⟨_, ⟨rfl, rfl⟩, rfl⟩
 have h165 := h165.mono hle171
 have h0_14 := h0_14.mono hle171
 have h0_15 := h0_15.mono hle171
 have h0_16 := h0_16.mono hle171
 have h0_17 := h0_17.mono hle171
 refine ⟨(StabL.anc rfl (StabL.st (StabA.of rfl (PO.loadB 2 pl9 rfl rfl rfl) rfl) (StabL.st (StabA.of rfl (PO.fieldAddr fo67_11 hs138_1 rfl) rfl) (StabL.st (StabA.of rfl (PO.move rfl) rfl) trivial)))), ?_⟩
 refine WT.a0 ?_
 obtain ⟨r173, hr174, h⟩ := bnd h
 refine WT.alt rfl (EO.call0 co105 (f_ref05_text1_ok a0.Key r168 _ r173 hr174) (args2 rfl rfl)) rfl ?_ ?_
 rintro _ M175 _ hle176 ⟨_, ⟨vq177, cq177, rfl, rfl, hq177⟩, rfl⟩
 have h165 := h165.mono hle176
 have h0_14 := h0_14.mono hle176
 have h0_15 := h0_15.mono hle176
 have h0_16 := h0_16.mono hle176
 have h0_17 := h0_17.mono hle176
 refine ⟨(StabL.anc rfl (StabL.anc rfl (StabL.anc rfl (StabL.st (StabA.of rfl (PO.move rfl) rfl) trivial)))), ?_⟩
 refine WT.a1 ?_
 obtain ⟨hg181, h⟩ := grd_i h
 refine WT.f1 ?_
 refine WT.alt rfl (EO.append (dd := (Kd.int .u8)) (xs := x137 ++ r159) (ys := r173) Tryz.underlying40 Tryz.underlying40 in5 rfl (appB (by decide) hg181) (by decide) rfl rfl h165 (hq177.src 1 rfl)) rfl ?_ ?_
 rintro v180 _ _ - ⟨rfl, c178, rfl, h179⟩
 refine ⟨(StabL.anc rfl (StabL.anc rfl (StabL.anc rfl (StabL.anc rfl trivial)))), ?_⟩
 refine WT.alt rfl ((PO.assign rfl).eo) rfl ?_ ?_
 rintro _ _ _ - ⟨rfl, rfl, rfl⟩
 refine ⟨(StabL.anc rfl (StabL.anc rfl (StabL.anc rfl (StabL.anc rfl trivial)))), ?_⟩
 refine WT.fin ?_
 refine WQ.thenC ?_
 refine WC.seq ?_
 refine WC.draw [0, 0, 2, 0, 8, 30, 63, 127] (.pure 0 (.pure 1 (.pure 2 (.pure 3 (.alt 4 (.alt 5 (.alt 6 (.alt 7 .done .none) .none) .none) .none))))) mixed (by kernel_rfl) ?_
 refine Tp v180 rfl (PO.move rfl) rfl ?_
 refine Tp (pt g21 12) rfl (PO.fieldAddr fo67_12 hs138_1 rfl) rfl ?_
 refine Tp (.string a0.Value) rfl (PO.loadB 3 pl9 rfl rfl rfl) rfl ?_
 refine Tp (.int .i64 a0.Kind) rfl (PO.move hs138_3) rfl ?_
 obtain ⟨r182, hr183, h⟩ := bnd h
 refine WT.alt rfl (EO.call0 co61 (f_ref05_has_ok a0.Kind (118 : Int) _ r182 hr183) (args2 rfl rfl)) rfl ?_ ?_
 rintro _ M184 _ hle185 ⟨_, ⟨rfl, rfl⟩, rfl⟩
 have h179 := h179.mono hle185
 have h0_14 := h0_14.mono hle185
 have h0_15 := h0_15.mono hle185
 have h0_16 := h0_16.mono hle185
 have h0_17 := h0_17.mono hle185
 refine ⟨(StabL.anc rfl (StabL.st (StabA.of rfl (PO.loadB 3 pl9 rfl rfl rfl) rfl) (StabL.st (StabA.of rfl (PO.fieldAddr fo67_12 hs138_1 rfl) rfl) (StabL.st (StabA.of rfl (PO.move rfl) rfl) trivial)))), ?_⟩
 refine WT.a0 ?_
 obtain ⟨r187, hr188, h⟩ := bnd h
 refine WT.alt rfl (EO.call0 co105 (f_ref05_text1_ok a0.Value r182 _ r187 hr188) (args2 rfl rfl)) rfl ?_ ?_
 rintro _ M189 _ hle190 ⟨_, ⟨vq191, cq191, rfl, rfl, hq191⟩, rfl⟩
 have h179 := h179.mono hle190
 have h0_14 := h0_14.mono hle190
 have h0_15 := h0_15.mono hle190
 have h0_16 := h0_16.mono hle190
 have h0_17 := h0_17.mono hle190
 refine ⟨(StabL.anc rfl (StabL.anc rfl (StabL.anc rfl (StabL.st (StabA.of rfl (PO.move rfl) rfl) trivial)))), ?_⟩
 refine WT.a1 ?_
 obtain ⟨hg195, h⟩ := grd_i h
 refine WT.f1 ?_
 refine WT.alt rfl (EO.append (dd := (Kd.int .u8)) (xs := (x137 ++ r159) ++ r173) (ys := r187) Tryz.underlying40 Tryz.underlying40 in5 rfl (appB (by decide) hg195) (by decide) rfl rfl h179 (hq191.src 1 rfl)) rfl ?_ ?_
 rintro v194 _ _ - ⟨rfl, c192, rfl, h193⟩
 refine ⟨(StabL.anc rfl (StabL.anc rfl (StabL.anc rfl (StabL.anc rfl trivial)))), ?_⟩
 refine WT.alt rfl ((PO.assign rfl).eo) rfl ?_ ?_
 rintro _ _ _ - ⟨rfl, rfl, rfl⟩
 refine ⟨(StabL.anc rfl (StabL.anc rfl (StabL.anc rfl (StabL.anc rfl trivial)))), ?_⟩
 refine WT.fin ?_
 refine WQ.thenC ?_
 refine WC.seq ?_
 refine WC.draw [0, 0, 2, 0, 8, 30, 63, 127] (.pure 0 (.pure 1 (.pure 2 (.pure 3 (.alt 4 (.alt 5 (.alt 6 (.alt 7 .done .none) .none) .none) .none))))) mixed (by kernel_rfl) ?_
 refine Tp v194 rfl (PO.move rfl) rfl ?_
 refine Tp (pt g21 13) rfl (PO.fieldAddr fo67_13 hs138_1 rfl) rfl ?_
 refine Tp (.string a0.Rack) rfl (PO.loadB 4 pl9 rfl rfl rfl) rfl ?_
 refine Tp (.int .i64 a0.Kind) rfl (PO.move hs138_3) rfl ?_
 obtain ⟨r196, hr197, h⟩ := bnd h
 refine WT.alt rfl (EO.call0 co61 (f_ref05_has_ok a0.Kind (114 : Int) _ r196 hr197) (args2 rfl rfl)) rfl ?_ ?_
 rintro _ M198 _ hle199 ⟨_, ⟨rfl, rfl⟩, rfl⟩
 have h193 := h193.mono hle199
 have h0_14 := h0_14.mono hle199
 have h0_15 := h0_15.mono hle199
 have h0_16 := h0_16.mono hle199
 have h0_17 := h0_17.mono hle199
 refine ⟨(StabL.anc rfl (StabL.st (StabA.of rfl (PO.loadB 4 pl9 rfl rfl rfl) rfl) (StabL.st (StabA.of rfl (PO.fieldAddr fo67_13 hs138_1 rfl) rfl) (StabL.st (StabA.of rfl (PO.move rfl) rfl) trivial)))), ?_⟩
 refine WT.a0 ?_
 obtain ⟨r201, hr202, h⟩ := bnd h
 refine WT.alt rfl (EO.call0 co105 (f_ref05_text1_ok a0.Rack r196 _ r201 hr202) (args2 rfl rfl)) rfl ?_ ?_
 rintro _ M203 _ hle204 ⟨_, ⟨vq205, cq205, rfl, rfl, hq205⟩, rfl⟩
 have h193 := h193.mono hle204
 have h0_14 := h0_14.mono hle204
 have h0_15 := h0_15.mono hle204
 have h0_16 := h0_16.mono hle204
 have h0_17 := h0_17.mono hle204
 refine ⟨(StabL.anc rfl (StabL.anc rfl (StabL.anc rfl (StabL.st (StabA.of rfl (PO.move rfl) rfl) trivial)))), ?_⟩
 refine WT.a1 ?_
 obtain ⟨hg209, h⟩ := grd_i h
 refine WT.f1 ?_
 refine WT.alt rfl (EO.append (dd := (Kd.int .u8)) (xs := ((x137 ++ r159) ++ r173) ++ r187) (ys := r201) Tryz.underlying40 Tryz.underlying40 in5 rfl (appB (by decide) hg209) (by decide) rfl rfl h193 (hq205.src 1 rfl)) rfl ?_ ?_
 rintro v208 _ _ - ⟨rfl, c206, rfl, h207⟩
 refine ⟨(StabL.anc rfl (StabL.anc rfl (StabL.anc rfl (StabL.anc rfl trivial)))), ?_⟩
 refine WT.alt rfl ((PO.assign rfl).eo) rfl ?_ ?_
 rintro _ _ _ - ⟨rfl, rfl, rfl⟩
 refine ⟨(StabL.anc rfl (StabL.anc rfl (StabL.anc rfl (StabL.anc rfl trivial)))), ?_⟩
 refine WT.fin ?_
 refine WQ.thenC ?_
 refine WC.seq ?_
 refine WC.draw [0, 0, 2, 0, 8, 30, 63, 127] (.pure 0 (.pure 1 (.pure 2 (.pure 3 (.alt 4 (.alt 5 (.alt 6 (.alt 7 .done .none) .none) .none) .none))))) mixed (by kernel_rfl) ?_
 refine Tp v208 rfl (PO.move rfl) rfl ?_
 refine Tp (pt g21 14) rfl (PO.fieldAddr fo67_14 hs138_1 rfl) rfl ?_
 refine Tp v0_14 rfl (PO.loadB 5 pl65 rfl rfl rfl) rfl ?_
 refine Tp (.int .i64 a0.Kind) rfl (PO.move hs138_3) rfl ?_
 obtain ⟨r210, hr211, h⟩ := bnd h
 refine WT.alt rfl (EO.call0 co61 (f_ref05_has_ok a0.Kind (105 : Int) _ r210 hr211) (args2 rfl rfl)) rfl ?_ ?_
 rintro _ M212 _ hle213 ⟨_, ⟨rfl, rfl⟩, rfl⟩
 have h207 := h207.mono hle213
 have h0_14 := h0_14.mono hle213
 have h0_15 := h0_15.mono hle213
 have h0_16 := h0_16.mono hle213
 have h0_17 := h0_17.mono hle213
 refine ⟨(StabL.anc rfl (StabL.st (StabA.of rfl (PO.loadB 5 pl65 rfl rfl rfl) rfl) (StabL.st (StabA.of rfl (PO.fieldAddr fo67_14 hs138_1 rfl) rfl) (StabL.st (StabA.of rfl (PO.move rfl) rfl) trivial)))), ?_⟩
 refine WT.a0 ?_
 obtain ⟨r215, hr216, h⟩ := bnd h
 refine WT.alt rfl (EO.call0 co106 (f_ref05_row1_ok a0.Ids r210 _ _ h0_14 r215 hr216) (args2 rfl rfl)) rfl ?_ ?_
 rintro _ M217 _ hle218 ⟨_, ⟨vq219, cq219, rfl, rfl, hq219⟩, rfl⟩
 have h207 := h207.mono hle218
 have h0_14 := h0_14.mono hle218
 have h0_15 := h0_15.mono hle218
 have h0_16 := h0_16.mono hle218
 have h0_17 := h0_17.mono hle218
 refine ⟨(StabL.anc rfl (StabL.anc rfl (StabL.anc rfl (StabL.st (StabA.of rfl (PO.move rfl) rfl) trivial)))), ?_⟩
 refine WT.a1 ?_
 obtain ⟨hg223, h⟩ := grd_i h
 refine WT.f1 ?_
 refine WT.alt rfl (EO.append (dd := (Kd.int .u8)) (xs := (((x137 ++ r159) ++ r173) ++ r187) ++ r201) (ys := r215) Tryz.underlying40 Tryz.underlying40 in5 rfl (appB (by decide) hg223) (by decide) rfl rfl h207 (hq219.src 1 rfl)) rfl ?_ ?_
 rintro v222 _ _ - ⟨rfl, c220, rfl, h221⟩
 refine ⟨(StabL.anc rfl (StabL.anc rfl (StabL.anc rfl (StabL.anc rfl trivial)))), ?_⟩
 refine WT.alt rfl ((PO.assign rfl).eo) rfl ?_ ?_
 rintro _ _ _ - ⟨rfl, rfl, rfl⟩
 refine ⟨(StabL.anc rfl (StabL.anc rfl (StabL.anc rfl (StabL.anc rfl trivial)))), ?_⟩
 refine WT.fin ?_
 refine WQ.thenC ?_
 refine WC.seq ?_
 refine WC.draw [0, 0, 2, 0, 8, 30, 63, 127] (.pure 0 (.pure 1 (.pure 2 (.pure 3 (.alt 4 (.alt 5 (.alt 6 (.alt 7 .done .none) .none) .none) .none))))) mixed (by kernel_rfl) ?_
 refine Tp v222 rfl (PO.move rfl) rfl ?_
 refine Tp (pt g21 15) rfl (PO.fieldAddr fo67_15 hs138_1 rfl) rfl ?_
 refine Tp v0_15 rfl (PO.loadB 6 pl65 rfl rfl rfl) rfl ?_
 refine Tp (.int .i64 a0.Kind) rfl (PO.move hs138_3) rfl ?_
 obtain ⟨r224, hr225, h⟩ := bnd h
 refine WT.alt rfl (EO.call0 co61 (f_ref05_has_ok a0.Kind (109 : Int) _ r224 hr225) (args2 rfl rfl)) rfl ?_ ?_
 rintro _ M226 _ hle227 ⟨_, ⟨rfl, rfl⟩, rfl⟩
 have h221 := h221.mono hle227
 have h0_15 := h0_15.mono hle227
 have h0_14 := h0_14.mono hle227
 have h0_16 := h0_16.mono hle227
 have h0_17 := h0_17.mono hle227
 refine ⟨(StabL.anc rfl (StabL.st (StabA.of rfl (PO.loadB 6 pl65 rfl rfl rfl) rfl) (StabL.st (StabA.of rfl (PO.fieldAddr fo67_15 hs138_1 rfl) rfl) (StabL.st (StabA.of rfl (PO.move rfl) rfl) trivial)))), ?_⟩
 refine WT.a0 ?_
 obtain ⟨r229, hr230, h⟩ := bnd h
 refine WT.alt rfl (EO.call0 co106 (f_ref05_row1_ok a0.Isr r224 _ _ h0_15 r229 hr230) (args2 rfl rfl)) rfl ?_ ?_
 rintro _ M231 _ hle232 ⟨_, ⟨vq233, cq233, rfl, rfl, hq233⟩, rfl⟩
 have h221 := h221.mono hle232
 have h0_15 := h0_15.mono hle232
 have h0_14 := h0_14.mono hle232
 have h0_16 := h0_16.mono hle232
 have h0_17 := h0_17.mono hle232
 refine ⟨(StabL.anc rfl (StabL.anc rfl (StabL.anc rfl (StabL.st (StabA.of rfl (PO.move rfl) rfl) trivial)))), ?_⟩
 refine WT.a1 ?_
 obtain ⟨hg237, h⟩ := grd_i h
 refine WT.f1 ?_
 refine WT.alt rfl (EO.append (dd := (Kd.int .u8)) (xs := ((((x137 ++ r159) ++ r173) ++ r187) ++ r201) ++ r215) (ys := r229) Tryz.underlying40 Tryz.underlying40 in5 rfl (appB (by decide) hg237) (by decide) rfl rfl h221 (hq233.src 1 rfl)) rfl ?_ ?_
 rintro v236 _ _ - ⟨rfl, c234, rfl, h235⟩
 refine ⟨(StabL.anc rfl (StabL.anc rfl (StabL.anc rfl (StabL.anc rfl trivial)))), ?_⟩
 refine WT.alt rfl ((PO.assign rfl).eo) rfl ?_ ?_
 rintro _ _ _ - ⟨rfl, rfl, rfl⟩
 refine ⟨(StabL.anc rfl (StabL.anc rfl (StabL.anc rfl (StabL.anc rfl trivial)))), ?_⟩
 refine WT.fin ?_
 refine WQ.thenC ?_
 refine WC.seq ?_
 refine WC.draw [0, 0, 2, 0, 8, 30, 63, 127] (.pure 0 (.pure 1 (.pure 2 (.pure 3 (.alt 4 (.alt 5 (.alt 6 (.alt 7 .done .none) .none) .none) .none))))) mixed (by kernel_rfl) ?_
 refine Tp v236 rfl (PO.move rfl) rfl ?_
 refine Tp (pt g21 16) rfl (PO.fieldAddr fo67_16 hs138_1 rfl) rfl ?_
 refine Tp v0_16 rfl (PO.loadB 7 pl65 rfl rfl rfl) rfl ?_
 refine Tp (.int .i64 a0.Kind) rfl (PO.move hs138_3) rfl ?_
 obtain ⟨r238, hr239, h⟩ := bnd h
 refine WT.alt rfl (EO.call0 co61 (f_ref05_has_ok a0.Kind (120 : Int) _ r238 hr239) (args2 rfl rfl)) rfl ?_ ?_
 rintro _ M240 _ hle241 ⟨_, ⟨rfl, rfl⟩, rfl⟩
 have h235 := h235.mono hle241
 have h0_16 := h0_16.mono hle241
 have h0_14 := h0_14.mono hle241
 have h0_15 := h0_15.mono hle241
 have h0_17 := h0_17.mono hle241
 refine ⟨(StabL.anc rfl (StabL.st (StabA.of rfl (PO.loadB 7 pl65 rfl rfl rfl) rfl) (StabL.st (StabA.of rfl (PO.fieldAddr fo67_16 hs138_1 rfl) rfl) (StabL.st (StabA.of rfl (PO.move rfl) rfl) trivial)))), ?_⟩
 refine WT.a0 ?_
 obtain ⟨r243, hr244, h⟩ := bnd h
 refine WT.alt rfl (EO.call0 co106 (f_ref05_row1_ok a0.Add r238 _ _ h0_16 r243 hr244) (args2 rfl rfl)) rfl ?_ ?_
 rintro _ M245 _ hle246 ⟨_, ⟨vq247, cq247, rfl, rfl, hq247⟩, rfl⟩
 have h235 := h235.mono hle246
 have h0_16 := h0_16.mono hle246
 have h0_14 := h0_14.mono hle246
 have h0_15 := h0_15.mono hle246
 have h0_17 := h0_17.mono hle246
 refine ⟨(StabL.anc rfl (StabL.anc rfl (StabL.anc rfl (StabL.st (StabA.of rfl (PO.move rfl) rfl) trivial)))), ?_⟩
 refine WT.a1 ?_
 obtain ⟨hg251, h⟩ := grd_i h
 refine WT.f1 ?_
 refine WT.alt rfl (EO.append (dd := (Kd.int .u8)) (xs := (((((x137 ++ r159) ++ r173) ++ r187) ++ r201) ++ r215) ++ r229) (ys := r243) Tryz.underlying40 Tryz.underlying40 in5 rfl (appB (by decide) hg251) (by decide) rfl rfl h235 (hq247.src 1 rfl)) rfl ?_ ?_
 rintro v250 _ _ - ⟨rfl, c248, rfl, h249⟩
 refine ⟨(StabL.anc rfl (StabL.anc rfl (StabL.anc rfl (StabL.anc rfl trivial)))), ?_⟩
 refine WT.alt rfl ((PO.assign rfl).eo) rfl ?_ ?_
 rintro _ _ _ - ⟨rfl, rfl, rfl⟩
 refine ⟨(StabL.anc rfl (StabL.anc rfl (StabL.anc rfl (StabL.anc rfl trivial)))), ?_⟩
 refine WT.fin ?_
 refine WQ.thenC ?_
 refine WC.seq ?_
 refine WC.draw [0, 0, 2, 0, 8, 30, 63, 127] (.pure 0 (.pure 1 (.pure 2 (.pure 3 (.alt 4 (.alt 5 (.alt 6 (.pure 7 .done) .none) .none) .none))))) mixed (by kernel_rfl) ?_
 refine Tp v250 rfl (PO.move rfl) rfl ?_
 refine Tp (pt g21 17) rfl (PO.fieldAddr fo67_17 hs138_1 rfl) rfl ?_
 refine Tp v0_17 rfl (PO.loadB 8 pl65 rfl rfl rfl) rfl ?_
 refine Tp (.int .i64 a0.Kind) rfl (PO.move hs138_3) rfl ?_
 obtain ⟨r252, hr253, h⟩ := bnd h
 refine WT.alt rfl (EO.call0 co61 (f_ref05_has_ok a0.Kind (120 : Int) _ r252 hr253) (args2 rfl rfl)) rfl ?_ ?_
 rintro _ M254 _ hle255 ⟨_, ⟨rfl, rfl⟩, rfl⟩
 have h249 := h249.mono hle255
 have h0_17 := h0_17.mono hle255
 have h0_14 := h0_14.mono hle255
 have h0_15 := h0_15.mono hle255
 have h0_16 := h0_16.mono hle255
 refine ⟨(StabL.anc rfl (StabL.st (StabA.of rfl (PO.loadB 8 pl65 rfl rfl rfl) rfl) (StabL.st (StabA.of rfl (PO.fieldAddr fo67_17 hs138_1 rfl) rfl) (StabL.st (StabA.of rfl (PO.move rfl) rfl) trivial)))), ?_⟩
 refine WT.a0 ?_
 obtain ⟨r257, hr258, h⟩ := bnd h
 refine WT.alt rfl (EO.call0 co106 (f_ref05_row1_ok a0.Drop r252 _ _ h0_17 r257 hr258) (args2 rfl rfl)) rfl ?_ ?_
 rintro _ M259 _ hle260 ⟨_, ⟨vq261, cq261, rfl, rfl, hq261⟩, rfl⟩
 have h249 := h249.mono hle260
 have h0_17 := h0_17.mono hle260
 have h0_14 := h0_14.mono hle260
 have h0_15 := h0_15.mono hle260
 have h0_16 := h0_16.mono hle260
 refine ⟨(StabL.anc rfl (StabL.anc rfl (StabL.anc rfl (StabL.st (StabA.of rfl (PO.move rfl) rfl) trivial)))), ?_⟩
 refine WT.a1 ?_
 obtain ⟨hg265, h⟩ := grd_i h
 refine WT.f1 ?_
 refine WT.alt rfl (EO.append (dd := (Kd.int .u8)) (xs := ((((((x137 ++ r159) ++ r173) ++ r187) ++ r201) ++ r215) ++ r229) ++ r243) (ys := r257) Tryz.underlying40 Tryz.underlying40 in5 rfl (appB (by decide) hg265) (by decide) rfl rfl h249 (hq261.src 1 rfl)) rfl ?_ ?_
 rintro v264 _ _ - ⟨rfl, c262, rfl, h263⟩
 refine ⟨(StabL.anc rfl (StabL.anc rfl (StabL.anc rfl (StabL.anc rfl trivial)))), ?_⟩
 refine Tp v264 rfl (PO.assign rfl) rfl ?_
 refine WT.fin ?_
 refine WQ.thenC ?_
 refine WC.ret ?_
 refine WQ.f1 ?_
 refine WQ.drop ?_
 refine WQ.f1 ?_
 refine WQ.drop ?_
 refine WQ.f1 ?_
 refine WQ.drop ?_
 refine WQ.f1 ?_
 refine WQ.drop ?_
 refine WQ.f1 ?_
 refine WQ.drop ?_
 refine WQ.f1 ?_
 refine WQ.drop ?_
 refine WQ.f1 ?_
 refine WQ.drop ?_
 refine WQ.f1 ?_
 refine WQ.drop ?_
 refine WQ.f1 ?_
 refine WQ.drop ?_
 exact WQ.returnsF h [c262] rfl (results1 rfl rfl) ((((((((((((((((((((((((((((((((hle28.trans hle33).trans hle42).trans hle47).trans hle56).trans hle61).trans hle70).trans hle75).trans hle84).trans hle89).trans hle98).trans hle103).trans hle112).trans hle117).trans hle126).trans hle131).trans hle138).trans hle157).trans hle162).trans hle171).trans hle176).trans hle185).trans hle190).trans hle199).trans hle204).trans hle213).trans hle218).trans hle227).trans hle232).trans hle241).trans hle246).trans hle255).trans hle260) ⟨v264, c262, rfl, rfl, h263⟩
 exact WT.no
 exact WT.no
 exact WT.no
 exact WT.no
 exact WT.no
 exact WT.no
 exact WT.no
 exact WT.no
 exact WT.no
 exact WT.no
 exact WT.no
 exact WT.no
 exact WT.no
 exact WT.no
 exact WT.no
 exact WT.no
 exact WT.no
 exact WT.no
 exact WT.no
 exact WT.no
 exact WT.no
 exact WT.no
 exact WT.no
 exact WT.no
 exact WT.no
 exact WT.no
 exact WT.no
 exact WT.no
 exact WT.no
 exact WT.no
 exact WT.no
 exact WT.no
 exact WT.no
 exact WT.no
 exact WT.no
 exact WT.no
 exact WT.no
 exact WT.no
 exact WT.no
 exact WT.no
 exact WT.no
 exact WT.no
 exact WT.no
 exact WT.no
 exact WT.no
 exact WT.no
 exact WT.no
 exact WT.no
 exact WT.no
 exact WT.no
 exact WT.no
 exact WT.no
 exact WT.no
 exact WT.no
 exact WT.no
 exact WT.no
 exact WT.no
 exact WT.no
 exact WT.no
 exact WT.no
 exact WT.no
 exact WT.no
 exact WT.no

noncomputable def f_ref06_Bytes_l0 (a0 : T_api_Batch) (s_ : ((List Int) × Int)) : Option (((List Int) × Int) ⊕ (List Int)) :=
  match s_ with
  | (x48, x49) =>
    (if (decide (x49 < (a0.Records.length : Int))) = true then (grd (0 ≤ x49 ∧ x49 < a0.Records.length) ((f_ref05_Bytes (rd a0.Records x49)).bind fun (r59 : (List Int)) => (grd (x48.length + r59.length ≤ 274877906944) (some (Sum.inl (x48 ++ r59, IntKind.i64.wrap (x49 + (1 : Int)))))))) else (some (Sum.inr x48)))
noncomputable def f_ref06_Bytes (a0 : T_api_Batch) : Option (List Int) :=
  ((f_ref02_Int a0.Term).bind fun (r22 : (List Int)) => ((f_ref02_Int a0.Base).bind fun (r27 : (List Int)) => (grd (r22.length + r27.length ≤ 274877906944) ((f_ref02_Int (a0.Records.length : Int)).bind fun (r36 : (List Int)) => (grd ((r22 ++ r27).length + r36.length ≤ 274877906944) ((((iter (f_ref06_Bytes_l0 a0) ((r22 ++ r27) ++ r36, (0 : Int))).bind (fun (x50 : (List Int)) => (some x50))) : Option (List Int)).bind fun (x45 : (List Int)) => (some x45)))))))
def f_ref06_Bytes_post (a0 : T_api_Batch) (v0_2 : Value) : (List Int) → Value → IM → HL → Prop :=
  fun (r0 : (List Int)) (v : Value) (M' : IM) (H' : HL) => ∃ vz0 cz0, vz0 = v ∧ H' = [cz0] ∧ OwnS (Kd.int .u8) M' vz0 r0 cz0
theorem f_ref06_Bytes_ok (a0 : T_api_Batch) (M : IM) (v0_2 : Value) (h0_2 : RS kd_api_Record M v0_2 a0.Records) (res : (List Int)) (h : f_ref06_Bytes a0 = some res) :
    Tri Tryz.prog 41 #[(a24_ a0 v0_2)] M [] (f_ref06_Bytes_post a0 v0_2 res) := by
 unfold f_ref06_Bytes at h
 refine Tri.enter (fn := Tryz.f41) Tryz.func41 rfl (Nat.le_of_ble_eq_true rfl) ?_
 intro F ρ hρ
 refine Sr ?_
 refine WL.eff (EO.box (cs := (l24 a0 v0_2).toArray) (congrArg Value.cells (asE (a24_ a0 v0_2) (hρ 0)))) rfl ?_
 rintro _ _ _ - ⟨rfl, g21, rfl, rfl⟩
 refine Pa (.slice none 0 0) rfl rfl ?_
 refine Ns ?_
 refine Pu (pt g21 0) (PO.fieldAddr fo24_0 rfl rfl) rfl ?_
 refine Pu (.int .i64 a0.Term) (PO.loadB 0 pl3 rfl rfl rfl) rfl ?_
 obtain ⟨r22, hr23, h⟩ := bnd h
 refine WL.eff (EO.call0 co76 (f_ref02_Int_ok a0.Term _ r22 hr23) (args1 rfl)) rfl ?_
 rintro _ M24 _ hle25 ⟨_, ⟨vq26, cq26, rfl, rfl, hq26⟩, rfl⟩
 have h0_2 := h0_2.mono hle25
 refine WL.a1 ?_
 refine Pa vq26 rfl rfl ?_
 refine Ns ?_
 refine Pm vq26 rfl rfl ?_
 refine Pu (pt g21 1) (PO.fieldAddr fo24_1 rfl rfl) rfl ?_
 refine Pu (.int .i64 a0.Base) (PO.loadB 1 pl3 rfl rfl rfl) rfl ?_
 obtain ⟨r27, hr28, h⟩ := bnd h
 refine WL.eff (EO.call0 co76 (f_ref02_Int_ok a0.Base _ r27 hr28) (args1 rfl)) rfl ?_
 rintro _ M29 _ hle30 ⟨_, ⟨vq31, cq31, rfl, rfl, hq31⟩, rfl⟩
 have hq26 := hq26.mono hle30
 have h0_2 := h0_2.mono hle30
 refine WL.a1 ?_
 obtain ⟨hg35, h⟩ := grd_i h
 refine WL.f1 ?_
 refine WL.eff (EO.append (dd := (Kd.int .u8)) (xs := r22) (ys := r27) Tryz.underlying40 Tryz.underlying40 in5 rfl (appB (by decide) hg35) (by decide) rfl rfl hq26 (hq31.src 1 rfl)) rfl ?_
 rintro v34 _ _ - ⟨rfl, c32, rfl, h33⟩
 refine Pa v34 rfl rfl ?_
 refine Ns ?_
 refine Pm v34 rfl rfl ?_
 refine Pu (pt g21 2) (PO.fieldAddr fo24_2 rfl rfl) rfl ?_
 refine Pu v0_2 (PO.loadB 2 pl22 rfl rfl rfl) rfl ?_
 refine Pu (.int .i64 (a0.Records.length : Int)) (PO.lenS Tryz.underlying22 rfl h0_2.len) rfl ?_
 obtain ⟨r36, hr37, h⟩ := bnd h
 refine WL.eff (EO.call0 co76 (f_ref02_Int_ok (a0.Records.length : Int) _ r36 hr37) (args1 rfl)) rfl ?_
 rintro _ M38 _ hle39 ⟨_, ⟨vq40, cq40, rfl, rfl, hq40⟩, rfl⟩
 have h33 := h33.mono hle39
 have h0_2 := h0_2.mono hle39
 refine WL.a1 ?_
 obtain ⟨hg44, h⟩ := grd_i h
 refine WL.f1 ?_
 refine WL.eff (EO.append (dd := (Kd.int .u8)) (xs := r22 ++ r27) (ys := r36) Tryz.underlying40 Tryz.underlying40 in5 rfl (appB (by decide) hg44) (by decide) rfl rfl h33 (hq40.src 1 rfl)) rfl ?_
 rintro v43 _ _ - ⟨rfl, c41, rfl, h42⟩
 refine Pa v43 rfl rfl ?_
 refine Nt ?_
 obtain ⟨x45, hj46, h⟩ := bnd h
 refine WC.joinF (fun (x45 : (List Int)) ρ' M' H' => ∃ vx45 cx45, M38.le M' ∧ [(g21, .cells (l24 a0 v0_2).toArray 24 (0, 0))] :: cx45 :: F = H' ∧ ρ' 3 = vx45 ∧ OwnS (Kd.int .u8) M' vx45 x45 cx45) x45 ?_ ?_
 have h346 := h
 have h := hj46
 refine Sr ?_
 refine Pa (.int .i64 0) rfl rfl ?_
 refine Nt ?_
 refine WC.block ?_
 refine WC.f1 ?_
 refine WC.drop ?_
 refine WC.f1 ?_
 refine WC.drop ?_
 refine WC.f1 ?_
 obtain ⟨e47, he47, hK47⟩ := bnd h
 clear h
 refine WC.loop he47 (fun (p_ : ((List Int) × Int)) ρ' M' H' => match p_ with | (x48, x49) => ∃ vx48 cx48, M38.le M' ∧ [(g21, .cells (l24 a0 v0_2).toArray 24 (0, 0))] :: cx48 :: F = H' ∧ ρ' 1 = (pt g21 0) ∧ ρ' 3 = vx48 ∧ ρ' 4 = (.int .i64 x49) ∧ OwnS (Kd.int .u8) M' vx48 x48 cx48) ?_ ?_
 exact ⟨v43, c41, (IM.le.refl _), rfl, rfl, rfl, rfl, h42⟩
 rintro ⟨x48, x49⟩ o47 ρ47 M47 H47 h ⟨vx48, cx48, hle47, rfl, hs47_1, hs47_3, hs47_4, hx48⟩
 unfold f_ref06_Bytes_l0 at h
 have h0_2 := h0_2.mono hle47
 refine WC.seq ?_
 refine Sr ?_
 refine Pm (.int .i64 x49) hs47_4 rfl ?_
 refine Pu (pt g21 2) (PO.fieldAddr fo24_2 hs47_1 rfl) rfl ?_
 refine Pu v0_2 (PO.loadB 0 pl22 rfl rfl rfl) rfl ?_
 refine Pu (.int .i64 (a0.Records.length : Int)) (PO.lenS Tryz.underlying22 rfl h0_2.len) rfl ?_
 refine Pu (.bool (decide (x49 < (a0.Records.length : Int)))) (PO.lss rfl rfl) rfl ?_
 refine Nt ?_
 refine WC.cond (b := decide (x49 < (a0.Records.length : Int))) rfl (fun hb51 => ?_) (fun hb51 => ?_)
 have h := ite_t hb51 h
 refine WC.skip ?_
 refine WQ.thenC ?_
 refine WC.seq ?_
 refine WC.block ?_
 refine WC.region ?_
 refine Pm vx48 hs47_3 rfl ?_
 refine Pu (pt g21 2) (PO.fieldAddr fo24_2 hs47_1 rfl) rfl ?_
 refine Pu v0_2 (PO.loadB 0 pl22 rfl rfl rfl) rfl ?_
 refine Pm (.int .i64 x49) hs47_4 rfl ?_
 obtain ⟨hg52, h⟩ := grd_i h
 obtain ⟨p53, cs54, hat55, hrc56, hhas57⟩ := h0_2.at hg52.1 hg52.2 (by decide)
 obtain ⟨vw58_14, vw58_15, vw58_16, vw58_17, rfl, hw58_14, hw58_15, hw58_16, hw58_17⟩ := kd_api_Record_open hrc56
 refine Pu (.pointer (some p53)) (PO.indexAddr (n := a0.Records.length) Tryz.underlying22 sz67 rfl rfl hg52.1 hg52.2 hat55) rfl ?_
 refine Pu (a67_ (rd a0.Records x49) vw58_14 vw58_15 vw58_16 vw58_17) (PO.loadMA (cs := (l67 (rd a0.Records x49) vw58_14 vw58_15 vw58_16 vw58_17)) ag67 sz67 rfl hhas57) rfl ?_
 obtain ⟨r59, hr60, h⟩ := bnd h
 refine WL.eff (EO.call0 co77 (f_ref05_Bytes_ok (rd a0.Records x49) _ _ _ _ _ hw58_14 hw58_15 hw58_16 hw58_17 r59 hr60) (args1 rfl)) rfl ?_
 rintro _ M61 _ hle62 ⟨_, ⟨vq63, cq63, rfl, rfl, hq63⟩, rfl⟩
 have hx48 := hx48.mono hle62
 have h0_2 := h0_2.mono hle62
 have hhas57 := hhas57.mono hle62
 have hw58_14 := hw58_14.mono hle62
 have hw58_15 := hw58_15.mono hle62
 have hw58_16 := hw58_16.mono hle62
 have hw58_17 := hw58_17.mono hle62
 refine WL.a1 ?_
 obtain ⟨hg67, h⟩ := grd_i h
 refine WL.f2 ?_
 refine WL.eff (EO.append (dd := (Kd.int .u8)) (xs := x48) (ys := r59) Tryz.underlying40 Tryz.underlying40 in5 rfl (appB (by decide) hg67) (by decide) rfl rfl hx48 (hq63.src 1 rfl)) rfl ?_
 rintro v66 _ _ - ⟨rfl, c64, rfl, h65⟩
 refine Pa v66 rfl rfl ?_
 refine WL.nil ?_
 refine WQ.blockN ?_
 refine WQ.thenC ?_
 refine WC.region ?_
 refine Pm (.int .i64 x49) hs47_4 rfl ?_
 refine Pu (.int .i64 (IntKind.i64.wrap (x49 + 1))) (PO.add rfl rfl) rfl ?_
 refine Pa (.int .i64 (IntKind.i64.wrap (x49 + 1))) rfl rfl ?_
 refine WL.nil ?_
 refine WQ.f1 ?_
 refine WQ.drop ?_
 refine WQ.f1 ?_
 refine WQ.again (x48 ++ r59, IntKind.i64.wrap (x49 + 1)) (Option.some.inj h).symm ?_
 exact ⟨v66, c64, (hle47.trans hle62), rfl, hs47_1, rfl, rfl, h65⟩
 have h := ite_f hb51 h
 refine WC.exit ?_
 refine WQ.thenE ?_
 refine WQ.leaveE x48 (Option.some.inj h).symm (fun heq47 => ?_)
 subst heq47
 have h := hK47
 refine WQ.blockH ?_
 obtain rfl := Option.some.inj h
 refine WQ.thenJ ?_
 exact ⟨vx48, cx48, hle47, rfl, hs47_3, hx48⟩
 rintro ρ46 M46 H46 ⟨vx45, cx45, hle46, rfl, hs46_3, hx45⟩
 have h0_2 := h0_2.mono hle46
 refine Sr ?_
 refine Pm vx45 hs46_3 rfl ?_
 refine Pa vx45 rfl rfl ?_
 refine Nt ?_
 refine WC.ret ?_
 refine WQ.drop ?_
 exact WQ.returnsF h [cx45] rfl (results1 rfl rfl) (((hle25.trans hle30).trans hle39).trans hle46) ⟨vx45, cx45, rfl, rfl, hx45⟩


end Go.Proofs.YtjiffdgidodebaaGreatDoor.G
