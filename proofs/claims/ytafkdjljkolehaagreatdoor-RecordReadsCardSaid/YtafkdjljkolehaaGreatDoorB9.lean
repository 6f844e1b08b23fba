/- Go functions: what they come to, and that they do. Printed by a program of the session (gen). -/
import Derived.Test.YtafkdjljkolehaaGreatDoorBF
import Derived.Test.YtafkdjljkolehaaGreatDoorB8
import Derived.Test.YtafkdjljkolehaaGreatDoorKConv
set_option linter.unusedVariables false
set_option linter.unusedSimpArgs false
set_option maxHeartbeats 8000000
set_option maxRecDepth 100000
namespace Go.Proofs.YtafkdjljkolehaaGreatDoor.G
open Go Go.KK

noncomputable def f_ref02_row_l0 (a0 : (List Int)) (a3 : Int) (x25 : Int) (s_ : ((List Int) × Int × Int × Int × ByteArray × Int)) : Option (((List Int) × Int × Int × Int × ByteArray × Int) ⊕ ((List Int) × Int × Int × ByteArray × Int)) :=
  match s_ with
  | (x70, x71, x72, x73, x74, x75) =>
    (((if (decide (x71 < x25)) = true then (some (decide (x73 = (0 : Int)))) else (some false)) : Option Bool).bind fun (x81 : Bool) => (if x81 = true then ((((f_ref02_above a3).bind fun (r90 : Int) => ((f_ref02_num a0 (⟨x72, x73, x74, x75⟩ : T_ref02_State) r90).bind fun (r96, r97) => (some (r96, r97)))) : Option (T_ref02_State × Int)).bind fun (x86, x87) => (grd (x70.length + [IntKind.i64.wrap x87].length ≤ 274877906944) (some (Sum.inl (x70 ++ [IntKind.i64.wrap x87], IntKind.u64.wrap (x71 + (1 : Int)), x86.At, x86.Code, x86.Op, x86.Where))))) else (some (Sum.inr (x70, x72, x73, x74, x75)))))
noncomputable def f_ref02_row (a0 : (List Int)) (a1 : T_ref02_State) (a2 : Int) (a3 : Int) : Option (T_ref02_State × (List Int)) :=
  ((((f_ref02_above a2).bind fun (r28 : Int) => ((f_ref02_num a0 a1 r28).bind fun (r34, r35) => (some (r34, r35)))) : Option (T_ref02_State × Int)).bind fun (x24, x25) => ((((iter (f_ref02_row_l0 a0 a3 x25) ([], (0 : Int), x24.At, x24.Code, x24.Op, x24.Where)).bind (fun (x76, x77, x78, x79, x80) => (some (x76, x77, x78, x79, x80)))) : Option ((List Int) × Int × Int × ByteArray × Int)).bind fun (x63, x64, x65, x66, x67) => (if (decide (x65 ≠ (0 : Int))) = true then (some ((⟨x64, x65, x66, x67⟩ : T_ref02_State), [])) else (some ((⟨x64, x65, x66, x67⟩ : T_ref02_State), x63)))))
def f_ref02_row_post (a0 : (List Int)) (a1 : T_ref02_State) (a2 : Int) (a3 : Int) (v0 : Value) : (T_ref02_State × (List Int)) → Value → IM → HL → Prop :=
  fun (p_ : (T_ref02_State × (List Int))) (v : Value) (M' : IM) (H' : HL) => match p_ with | (r0, r1) => ∃ vz1 cz1, (.tuple #[(.agg #[(.int .i64 r0.At), (.int .i64 r0.Code), (.string r0.Op), (.int .i64 r0.Where)]), vz1]) = v ∧ H' = [cz1] ∧ OwnS (Kd.int .i64) M' vz1 r1 cz1
theorem f_ref02_row_ok (a0 : (List Int)) (a1 : T_ref02_State) (a2 : Int) (a3 : Int) (M : IM) (v0 : Value) (h0 : RS (Kd.int .u8) M v0 a0) (res : (T_ref02_State × (List Int))) (h : f_ref02_row a0 a1 a2 a3 = some res) :
    Tri Tryz.prog 84 #[v0, (a29_ a1), (.int .i64 a2), (.int .i64 a3)] M [] (f_ref02_row_post a0 a1 a2 a3 v0 res) := by
 unfold f_ref02_row at h
 refine Tri.enter (fn := Tryz.f84) Tryz.func84 rfl (Nat.le_of_ble_eq_true rfl) ?_
 intro F ρ hρ
 refine Sr ?_
 refine WL.eff (EO.box (cs := (l29 a1).toArray) (congrArg Value.cells (asE (a29_ a1) (hρ 1)))) rfl ?_
 rintro _ _ _ - ⟨rfl, g21, rfl, rfl⟩
 refine WL.eff (EO.alloc ze29 rfl) rfl ?_
 rintro _ _ _ - ⟨rfl, g22, rfl, rfl⟩
 refine Pa (.slice none 0 0) rfl rfl ?_
 refine Nt ?_
 obtain ⟨j26, hj26, h⟩ := bnd h
 refine WC.joinF (fun (p_ : (T_ref02_State × Int)) ρ' M' H' => match p_ with | (x24, x25) => ∃ g23, M.le M' ∧ [(g22, .cells z29_.toArray 29 (0, 0))] :: [(g21, .cells (l29 a1).toArray 29 (0, 0))] :: [(g23, .cells (l29 x24).toArray 29 (0, 0))] :: F = H' ∧ ρ' 0 = v0 ∧ ρ' 3 = (.int .i64 a3) ∧ ρ' 8 = (pt g22 0) ∧ ρ' 10 = (pt g23 0) ∧ ρ' 11 = (.int .u64 x25)) j26 ?_ ?_
 have h326 := h
 have h := hj26
 refine WC.draw [0, 0, 0, 4, 15, 31, 63, 63, 0, 383, 1023] (.pure 0 (.pure 1 (.pure 2 (.alt 3 (.alt 4 (.pure 5 (.pure 6 (.pure 7 (.alt 8 (.alt 9 (.pure 10 .done) .none) .none)))) (.alt 8 (.alt 4 (.pure 5 (.pure 6 (.pure 7 (.alt 9 (.pure 10 .done) .none)))) .none) .none)) (.alt 8 (.alt 3 (.alt 4 (.pure 5 (.pure 6 (.pure 7 (.alt 9 (.pure 10 .done) .none)))) .none) .none) .none))))) mixed (by kernel_rfl) ?_
 refine Tp v0 rfl (PO.move (hρ 0)) rfl ?_
 refine Tp (a29_ a1) rfl (PO.loadBA (cs := (l29 a1)) 1 ag29 sz29 rfl rfl rfl) rfl ?_
 refine Tp (.int .i64 a2) rfl (PO.move (hρ 2)) rfl ?_
 have hk27 := h
 obtain ⟨r28, hr29, h⟩ := bnd h
 refine WT.alt rfl (EO.call0 co82 (f_ref02_above_ok a2 _ r28 hr29) (args1 rfl)) rfl ?_ ?_
 rintro _ M30 _ hle31 ⟨_, ⟨rfl, rfl⟩, rfl⟩
 have h0 := h0.mono hle31
 refine ⟨(StabL.anc rfl (StabL.st (StabA.of rfl (PO.loadBA (cs := (l29 a1)) 1 ag29 sz29 rfl rfl rfl) rfl) (StabL.st (StabA.of rfl (PO.move (hρ 0)) rfl) trivial))), ?_⟩
 refine WT.a0 ?_
 have hk33 := h
 obtain ⟨⟨r34, r35⟩, hr36, h⟩ := bnd h
 refine WT.alt rfl (EO.call0 co81 (f_ref02_num_ok a0 a1 r28 _ _ h0 (r34, r35) hr36) (args3 rfl rfl rfl)) rfl ?_ ?_
 rintro _ M37 _ hle38 ⟨_, ⟨rfl, rfl⟩, rfl⟩
 have h0 := h0.mono hle38
 refine ⟨(StabL.anc rfl (StabL.anc rfl (StabL.anc rfl trivial))), ?_⟩
 refine WT.a0 ?_
 refine Tp (.tuple #[(a29_ r34), (.int .u64 r35)]) rfl (PO.move rfl) rfl ?_
 refine Tp (a29_ r34) rfl (PO.extract rfl rfl) rfl ?_
 refine Tp (.int .u64 r35) rfl (PO.extract rfl rfl) rfl ?_
 refine WT.alt rfl (EO.alloc ze29 rfl) rfl ?_ ?_
 rintro _ _ _ - ⟨rfl, g41, rfl, rfl⟩
 refine ⟨(StabL.st (StabA.of rfl (PO.extract rfl rfl) rfl) (StabL.st (StabA.of rfl (PO.extract rfl rfl) rfl) (StabL.st (StabA.of rfl (PO.move rfl) rfl) (StabL.st (StabA.of rfl (PO.move (hρ 2)) rfl) (StabL.st (StabA.of rfl (PO.loadBA (cs := (l29 a1)) 2 ag29 sz29 rfl rfl rfl) rfl) (StabL.st (StabA.of rfl (PO.move (hρ 0)) rfl) trivial)))))), ?_⟩
 refine WT.alt rfl (EO.storeL (v := (a29_ r34)) (vl := (l29 r34)) (arr' := (l29 r34)) rfl sz29 rfl rfl (onesOf (Ones.cons rfl (Ones.cons rfl (Ones.cons rfl (Ones.cons rfl Ones.nil))))) rfl rfl rfl) rfl ?_ ?_
 rintro _ _ _ - ⟨rfl, rfl⟩
 refine ⟨(StabL.st (StabA.of rfl (PO.extract rfl rfl) rfl) (StabL.anc rfl (StabL.anc rfl (StabL.anc rfl (StabL.anc rfl (StabL.anc rfl trivial)))))), ?_⟩
 refine Tp (.int .u64 r35) rfl (PO.assign rfl) rfl ?_
 refine WT.fin ?_
 refine WQ.f2 ?_
 refine WQ.f2 ?_
 obtain rfl := Option.some.inj h
 refine WQ.thenJ ?_
 exact ⟨g41, (hle31.trans hle38), rfl, (hρ 0), (hρ 3), rfl, rfl, rfl⟩
 exact WT.no
 exact WT.no
 have h := hk33
 refine WT.alt rfl (EO.alloc ze29 rfl) rfl ?_ ?_
 rintro _ _ _ - ⟨rfl, g42, rfl, rfl⟩
 refine ⟨(StabL.st (StabA.of rfl (PO.move (hρ 2)) rfl) (StabL.st (StabA.of rfl (PO.loadBA (cs := (l29 a1)) 2 ag29 sz29 rfl rfl rfl) rfl) (StabL.st (StabA.of rfl (PO.move (hρ 0)) rfl) trivial))), ?_⟩
 obtain ⟨⟨r43, r44⟩, hr45, h⟩ := bnd h
 refine WT.alt rfl (EO.call0 co81 (f_ref02_num_ok a0 a1 r28 _ _ h0 (r43, r44) hr45) (args3 rfl rfl rfl)) rfl ?_ ?_
 rintro _ M46 _ hle47 ⟨_, ⟨rfl, rfl⟩, rfl⟩
 have h0 := h0.mono hle47
 refine ⟨(StabL.anc rfl (StabL.anc rfl (StabL.anc rfl trivial))), ?_⟩
 refine WT.a0 ?_
 refine Tp (.tuple #[(a29_ r43), (.int .u64 r44)]) rfl (PO.move rfl) rfl ?_
 refine Tp (a29_ r43) rfl (PO.extract rfl rfl) rfl ?_
 refine Tp (.int .u64 r44) rfl (PO.extract rfl rfl) rfl ?_
 refine WT.alt rfl (EO.storeL (v := (a29_ r43)) (vl := (l29 r43)) (arr' := (l29 r43)) rfl sz29 rfl rfl (onesOf (Ones.cons rfl (Ones.cons rfl (Ones.cons rfl (Ones.cons rfl Ones.nil))))) rfl rfl rfl) rfl ?_ ?_
 rintro _ _ _ - ⟨rfl, rfl⟩
 refine ⟨(StabL.st (StabA.of rfl (PO.extract rfl rfl) rfl) (StabL.anc rfl (StabL.anc rfl (StabL.anc rfl (StabL.anc rfl (StabL.anc rfl trivial)))))), ?_⟩
 refine Tp (.int .u64 r44) rfl (PO.assign rfl) rfl ?_
 refine WT.fin ?_
 refine WQ.f2 ?_
 refine WQ.f2 ?_
 obtain rfl := Option.some.inj h
 refine WQ.thenJ ?_
 exact ⟨g42, (hle31.trans hle47), rfl, (hρ 0), (hρ 3), rfl, rfl, rfl⟩
 exact WT.no
 exact WT.no
 exact WT.no
 have h := hk27
 refine WT.alt rfl (EO.alloc ze29 rfl) rfl ?_ ?_
 rintro _ _ _ - ⟨rfl, g50, rfl, rfl⟩
 refine ⟨(StabL.st (StabA.of rfl (PO.move (hρ 2)) rfl) (StabL.st (StabA.of rfl (PO.loadBA (cs := (l29 a1)) 2 ag29 sz29 rfl rfl rfl) rfl) (StabL.st (StabA.of rfl (PO.move (hρ 0)) rfl) trivial))), ?_⟩
 obtain ⟨r51, hr52, h⟩ := bnd h
 refine WT.alt rfl (EO.call0 co82 (f_ref02_above_ok a2 _ r51 hr52) (args1 rfl)) rfl ?_ ?_
 rintro _ M53 _ hle54 ⟨_, ⟨rfl, rfl⟩, rfl⟩
 have h0 := h0.mono hle54
 refine ⟨(StabL.anc rfl (StabL.st (StabA.of rfl (PO.loadBA (cs := (l29 a1)) 2 ag29 sz29 rfl rfl rfl) rfl) (StabL.st (StabA.of rfl (PO.move (hρ 0)) rfl) trivial))), ?_⟩
 refine WT.a0 ?_
 obtain ⟨⟨r56, r57⟩, hr58, h⟩ := bnd h
 refine WT.alt rfl (EO.call0 co81 (f_ref02_num_ok a0 a1 r51 _ _ h0 (r56, r57) hr58) (args3 rfl rfl rfl)) rfl ?_ ?_
 rintro _ M59 _ hle60 ⟨_, ⟨rfl, rfl⟩, rfl⟩
 have h0 := h0.mono hle60
 refine ⟨(StabL.anc rfl (StabL.anc rfl (StabL.anc rfl trivial))), ?_⟩
 refine WT.a0 ?_
 refine Tp (.tuple #[(a29_ r56), (.int .u64 r57)]) rfl (PO.move rfl) rfl ?_
 refine Tp (a29_ r56) rfl (PO.extract rfl rfl) rfl ?_
 refine Tp (.int .u64 r57) rfl (PO.extract rfl rfl) rfl ?_
 refine WT.alt rfl (EO.storeL (v := (a29_ r56)) (vl := (l29 r56)) (arr' := (l29 r56)) rfl sz29 rfl rfl (onesOf (Ones.cons rfl (Ones.cons rfl (Ones.cons rfl (Ones.cons rfl Ones.nil))))) rfl rfl rfl) rfl ?_ ?_
 rintro _ _ _ - ⟨rfl, rfl⟩
 refine ⟨(StabL.st (StabA.of rfl (PO.extract rfl rfl) rfl) (StabL.anc rfl (StabL.anc rfl (StabL.anc rfl (StabL.anc rfl (StabL.anc rfl trivial)))))), ?_⟩
 refine Tp (.int .u64 r57) rfl (PO.assign rfl) rfl ?_
 refine WT.fin ?_
 refine WQ.f2 ?_
 refine WQ.f2 ?_
 obtain rfl := Option.some.inj h
 refine WQ.thenJ ?_
 exact ⟨g50, (hle54.trans hle60), rfl, (hρ 0), (hρ 3), rfl, rfl, rfl⟩
 exact WT.no
 exact WT.no
 exact WT.no
 exact WT.no
 obtain ⟨x24, x25⟩ := j26
 rintro ρ26 M26 H26 ⟨g23, hle26, rfl, hs26_0, hs26_3, hs26_8, hs26_10, hs26_11⟩
 have h0 := h0.mono hle26
 refine Sr ?_
 refine Pa (.slice none 0 0) rfl rfl ?_
 refine Nt ?_
 obtain ⟨j68, hj68, h⟩ := bnd h
 refine WC.joinF (fun (p_ : ((List Int) × Int × Int × ByteArray × Int)) ρ' M' H' => match p_ with | (x63, x64, x65, x66, x67) => ∃ vx63 cx63, M26.le M' ∧ [(g22, .cells z29_.toArray 29 (0, 0))] :: [(g21, .cells (l29 a1).toArray 29 (0, 0))] :: [(g23, .cells #[(.int .i64 x64), (.int .i64 x65), (.string x66), (.int .i64 x67)] 29 (0, 0))] :: cx63 :: F = H' ∧ ρ' 8 = (pt g22 0) ∧ ρ' 10 = (pt g23 0) ∧ ρ' 12 = vx63 ∧ OwnS (Kd.int .i64) M' vx63 x63 cx63) j68 ?_ ?_
 have h368 := h
 have h := hj68
 refine Sr ?_
 refine Pa (.int .u64 0) rfl rfl ?_
 refine Nt ?_
 refine WC.block ?_
 refine WC.e0 ?_
 refine WC.f3 ?_
 refine WC.f3 ?_
 refine WC.f3 ?_
 obtain ⟨e69, he69, hK69⟩ := bnd h
 clear h
 refine WC.loop he69 (fun (p_ : ((List Int) × Int × Int × Int × ByteArray × Int)) ρ' M' H' => match p_ with | (x70, x71, x72, x73, x74, x75) => ∃ vx70 cx70, M26.le M' ∧ [(g22, .cells z29_.toArray 29 (0, 0))] :: [(g21, .cells (l29 a1).toArray 29 (0, 0))] :: [(g23, .cells #[(.int .i64 x72), (.int .i64 x73), (.string x74), (.int .i64 x75)] 29 (0, 0))] :: cx70 :: F = H' ∧ ρ' 0 = v0 ∧ ρ' 3 = (.int .i64 a3) ∧ ρ' 8 = (pt g22 0) ∧ ρ' 10 = (pt g23 0) ∧ ρ' 11 = (.int .u64 x25) ∧ ρ' 12 = vx70 ∧ ρ' 13 = (.int .u64 x71) ∧ OwnS (Kd.int .i64) M' vx70 x70 cx70) ?_ ?_
 exact ⟨(.slice none 0 0), [], (IM.le.refl _), rfl, hs26_0, hs26_3, hs26_8, hs26_10, hs26_11, rfl, rfl, (OwnS.nil _ _)⟩
 rintro ⟨x70, x71, x72, x73, x74, x75⟩ o69 ρ69 M69 H69 h ⟨vx70, cx70, hle69, rfl, hs69_0, hs69_3, hs69_8, hs69_10, hs69_11, hs69_12, hs69_13, hx70⟩
 unfold f_ref02_row_l0 at h
 have h0 := h0.mono hle69
 refine WC.seq ?_
 obtain ⟨x81, hj82, h⟩ := bnd h
 refine WC.joinF (fun (x81 : Bool) ρ' M' H' => M69.le M' ∧ [(g22, .cells z29_.toArray 29 (0, 0))] :: [(g21, .cells (l29 a1).toArray 29 (0, 0))] :: [(g23, .cells #[(.int .i64 x72), (.int .i64 x73), (.string x74), (.int .i64 x75)] 29 (0, 0))] :: cx70 :: F = H' ∧ ρ' 0 = v0 ∧ ρ' 3 = (.int .i64 a3) ∧ ρ' 8 = (pt g22 0) ∧ ρ' 10 = (pt g23 0) ∧ ρ' 11 = (.int .u64 x25) ∧ ρ' 12 = vx70 ∧ ρ' 13 = (.int .u64 x71) ∧ ρ' 31 = (.bool x81)) x81 ?_ ?_
 have h382 := h
 have h := hj82
 refine WC.region ?_
 refine Pm (.int .u64 x71) hs69_13 rfl ?_
 refine Pm (.int .u64 x25) hs69_11 rfl ?_
 refine Pu (.bool (decide (x71 < x25))) (PO.lss rfl rfl) rfl ?_
 refine Pm (.bool (decide (x71 < x25))) rfl rfl ?_
 rcases Bool.eq_false_or_eq_true (decide (x71 < x25)) with hb83 | hb83
 have h := ite_t hb83 h
 refine On 27 rfl rfl hb83 ?_
 refine Pu (pt g23 1) (PO.fieldAddr fo29_1 hs69_10 rfl) rfl ?_
 refine On 27 rfl rfl hb83 ?_
 refine Pu (.int .i64 x73) (PO.loadB 2 pl27 rfl rfl rfl) rfl ?_
 refine On 27 rfl rfl hb83 ?_
 refine Pu (.bool (decide (x73 = 0))) (PO.eql rfl rfl) rfl ?_
 refine Pu (.bool (decide (x73 = 0))) (PO.pickT rfl hb83 rfl) rfl ?_
 refine WL.nil ?_
 obtain rfl := Option.some.inj h
 refine WQ.thenJ ?_
 exact ⟨(IM.le.refl _), rfl, hs69_0, hs69_3, hs69_8, hs69_10, hs69_11, hs69_12, hs69_13, rfl⟩
 have h := ite_f hb83 h
 iterate 3 refine Of 27 rfl rfl hb83 rfl ?_
 refine Pu (.bool false) (PO.pickF rfl hb83 rfl) rfl ?_
 refine WL.nil ?_
 obtain rfl := Option.some.inj h
 refine WQ.thenJ ?_
 exact ⟨(IM.le.refl _), rfl, hs69_0, hs69_3, hs69_8, hs69_10, hs69_11, hs69_12, hs69_13, rfl⟩
 rintro ρ82 M82 H82 ⟨hle82, rfl, hs82_0, hs82_3, hs82_8, hs82_10, hs82_11, hs82_12, hs82_13, hs82_31⟩
 have h0 := h0.mono hle82
 have hx70 := hx70.mono hle82
 refine WC.cond (b := x81) hs82_31 (fun hb84 => ?_) (fun hb84 => ?_)
 have h := ite_t hb84 h
 refine WC.skip ?_
 refine WQ.thenC ?_
 refine WC.seq ?_
 refine WC.block ?_
 obtain ⟨j88, hj88, h⟩ := bnd h
 refine WC.joinF (fun (p_ : (T_ref02_State × Int)) ρ' M' H' => match p_ with | (x86, x87) => ∃ g85, M82.le M' ∧ [(g22, .cells z29_.toArray 29 (0, 0))] :: [(g21, .cells (l29 a1).toArray 29 (0, 0))] :: [(g23, .cells #[(.int .i64 x72), (.int .i64 x73), (.string x74), (.int .i64 x75)] 29 (0, 0))] :: [(g85, .cells (l29 x86).toArray 29 (0, 0))] :: cx70 :: F = H' ∧ ρ' 0 = v0 ∧ ρ' 3 = (.int .i64 a3) ∧ ρ' 8 = (pt g22 0) ∧ ρ' 10 = (pt g23 0) ∧ ρ' 11 = (.int .u64 x25) ∧ ρ' 12 = vx70 ∧ ρ' 13 = (.int .u64 x71) ∧ ρ' 14 = (pt g85 0) ∧ ρ' 15 = (.int .u64 x87)) j88 ?_ ?_
 have h388 := h
 have h := hj88
 refine WC.draw [0, 0, 0, 4, 15, 31, 63, 63, 0, 383, 1023] (.pure 0 (.pure 1 (.pure 2 (.alt 3 (.alt 4 (.pure 5 (.pure 6 (.pure 7 (.alt 8 (.alt 9 (.pure 10 .done) .none) .none)))) (.alt 8 (.alt 4 (.pure 5 (.pure 6 (.pure 7 (.alt 9 (.pure 10 .done) .none)))) .none) .none)) (.alt 8 (.alt 3 (.alt 4 (.pure 5 (.pure 6 (.pure 7 (.alt 9 (.pure 10 .done) .none)))) .none) .none) .none))))) mixed (by kernel_rfl) ?_
 refine Tp v0 rfl (PO.move hs82_0) rfl ?_
 refine Tp (.agg #[(.int .i64 x72), (.int .i64 x73), (.string x74), (.int .i64 x75)]) rfl (PO.loadBA (cs := [(.int .i64 x72), (.int .i64 x73), (.string x74), (.int .i64 x75)]) 2 ag29 sz29 hs82_10 rfl rfl) rfl ?_
 refine Tp (.int .i64 a3) rfl (PO.move hs82_3) rfl ?_
 have hk89 := h
 obtain ⟨r90, hr91, h⟩ := bnd h
 refine WT.alt rfl (EO.call0 co82 (f_ref02_above_ok a3 _ r90 hr91) (args1 rfl)) rfl ?_ ?_
 rintro _ M92 _ hle93 ⟨_, ⟨rfl, rfl⟩, rfl⟩
 have h0 := h0.mono hle93
 have hx70 := hx70.mono hle93
 refine ⟨(StabL.anc rfl (StabL.st (StabA.of rfl (PO.loadBA (cs := [(.int .i64 x72), (.int .i64 x73), (.string x74), (.int .i64 x75)]) 2 ag29 sz29 hs82_10 rfl rfl) rfl) (StabL.st (StabA.of rfl (PO.move hs82_0) rfl) trivial))), ?_⟩
 refine WT.a0 ?_
 have hk95 := h
 obtain ⟨⟨r96, r97⟩, hr98, h⟩ := bnd h
 refine WT.alt rfl (EO.call0 co81 (f_ref02_num_ok a0 (⟨x72, x73, x74, x75⟩ : T_ref02_State) r90 _ _ h0 (r96, r97) hr98) (args3 rfl rfl rfl)) rfl ?_ ?_
 rintro _ M99 _ hle100 ⟨_, ⟨rfl, rfl⟩, rfl⟩
 have h0 := h0.mono hle100
 have hx70 := hx70.mono hle100
 refine ⟨(StabL.anc rfl (StabL.anc rfl (StabL.anc rfl trivial))), ?_⟩
 refine WT.a0 ?_
 refine Tp (.tuple #[(a29_ r96), (.int .u64 r97)]) rfl (PO.move rfl) rfl ?_
 refine Tp (a29_ r96) rfl (PO.extract rfl rfl) rfl ?_
 refine Tp (.int .u64 r97) rfl (PO.extract rfl rfl) rfl ?_
 refine WT.alt rfl (EO.alloc ze29 rfl) rfl ?_ ?_
 rintro _ _ _ - ⟨rfl, g103, rfl, rfl⟩
 refine ⟨(StabL.st (StabA.of rfl (PO.extract rfl rfl) rfl) (StabL.st (StabA.of rfl (PO.extract rfl rfl) rfl) (StabL.st (StabA.of rfl (PO.move rfl) rfl) (StabL.st (StabA.of rfl (PO.move hs82_3) rfl) (StabL.st (StabA.of rfl (PO.loadBA (cs := [(.int .i64 x72), (.int .i64 x73), (.string x74), (.int .i64 x75)]) 3 ag29 sz29 hs82_10 rfl rfl) rfl) (StabL.st (StabA.of rfl (PO.move hs82_0) rfl) trivial)))))), ?_⟩
 refine WT.alt rfl (EO.storeL (v := (a29_ r96)) (vl := (l29 r96)) (arr' := (l29 r96)) rfl sz29 rfl rfl (onesOf (Ones.cons rfl (Ones.cons rfl (Ones.cons rfl (Ones.cons rfl Ones.nil))))) rfl rfl rfl) rfl ?_ ?_
 rintro _ _ _ - ⟨rfl, rfl⟩
 refine ⟨(StabL.st (StabA.of rfl (PO.extract rfl rfl) rfl) (StabL.anc rfl (StabL.anc rfl (StabL.anc rfl (StabL.anc rfl (StabL.anc rfl trivial)))))), ?_⟩
 refine Tp (.int .u64 r97) rfl (PO.assign rfl) rfl ?_
 refine WT.fin ?_
 refine WQ.f4 ?_
 refine WQ.f1 ?_
 refine WQ.f4 ?_
 refine WQ.f4 ?_
 refine WQ.f4 ?_
 obtain rfl := Option.some.inj h
 refine WQ.thenJ ?_
 exact ⟨g103, (hle93.trans hle100), rfl, hs82_0, hs82_3, hs82_8, hs82_10, hs82_11, hs82_12, hs82_13, rfl, rfl⟩
 exact WT.no
 exact WT.no
 have h := hk95
 refine WT.alt rfl (EO.alloc ze29 rfl) rfl ?_ ?_
 rintro _ _ _ - ⟨rfl, g104, rfl, rfl⟩
 refine ⟨(StabL.st (StabA.of rfl (PO.move hs82_3) rfl) (StabL.st (StabA.of rfl (PO.loadBA (cs := [(.int .i64 x72), (.int .i64 x73), (.string x74), (.int .i64 x75)]) 3 ag29 sz29 hs82_10 rfl rfl) rfl) (StabL.st (StabA.of rfl (PO.move hs82_0) rfl) trivial))), ?_⟩
 obtain ⟨⟨r105, r106⟩, hr107, h⟩ := bnd h
 refine WT.alt rfl (EO.call0 co81 (f_ref02_num_ok a0 (⟨x72, x73, x74, x75⟩ : T_ref02_State) r90 _ _ h0 (r105, r106) hr107) (args3 rfl rfl rfl)) rfl ?_ ?_
 rintro _ M108 _ hle109 ⟨_, ⟨rfl, rfl⟩, rfl⟩
 have h0 := h0.mono hle109
 have hx70 := hx70.mono hle109
 refine ⟨(StabL.anc rfl (StabL.anc rfl (StabL.anc rfl trivial))), ?_⟩
 refine WT.a0 ?_
 refine Tp (.tuple #[(a29_ r105), (.int .u64 r106)]) rfl (PO.move rfl) rfl ?_
 refine Tp (a29_ r105) rfl (PO.extract rfl rfl) rfl ?_
 refine Tp (.int .u64 r106) rfl (PO.extract rfl rfl) rfl ?_
 refine WT.alt rfl (EO.storeL (v := (a29_ r105)) (vl := (l29 r105)) (arr' := (l29 r105)) rfl sz29 rfl rfl (onesOf (Ones.cons rfl (Ones.cons rfl (Ones.cons rfl (Ones.cons rfl Ones.nil))))) rfl rfl rfl) rfl ?_ ?_
 rintro _ _ _ - ⟨rfl, rfl⟩
 refine ⟨(StabL.st (StabA.of rfl (PO.extract rfl rfl) rfl) (StabL.anc rfl (StabL.anc rfl (StabL.anc rfl (StabL.anc rfl (StabL.anc rfl trivial)))))), ?_⟩
 refine Tp (.int .u64 r106) rfl (PO.assign rfl) rfl ?_
 refine WT.fin ?_
 refine WQ.f4 ?_
 refine WQ.f1 ?_
 refine WQ.f4 ?_
 refine WQ.f4 ?_
 refine WQ.f4 ?_
 obtain rfl := Option.some.inj h
 refine WQ.thenJ ?_
 exact ⟨g104, (hle93.trans hle109), rfl, hs82_0, hs82_3, hs82_8, hs82_10, hs82_11, hs82_12, hs82_13, rfl, rfl⟩
 exact WT.no
 exact WT.no
 exact WT.no
 have h := hk89
 refine WT.alt rfl (EO.alloc ze29 rfl) rfl ?_ ?_
 rintro _ _ _ - ⟨rfl, g112, rfl, rfl⟩
 refine ⟨(StabL.st (StabA.of rfl (PO.move hs82_3) rfl) (StabL.st (StabA.of rfl (PO.loadBA (cs := [(.int .i64 x72), (.int .i64 x73), (.string x74), (.int .i64 x75)]) 3 ag29 sz29 hs82_10 rfl rfl) rfl) (StabL.st (StabA.of rfl (PO.move hs82_0) rfl) trivial))), ?_⟩
 obtain ⟨r113, hr114, h⟩ := bnd h
 refine WT.alt rfl (EO.call0 co82 (f_ref02_above_ok a3 _ r113 hr114) (args1 rfl)) rfl ?_ ?_
 rintro _ M115 _ hle116 ⟨_, ⟨rfl, rfl⟩, rfl⟩
 have h0 := h0.mono hle116
 have hx70 := hx70.mono hle116
 refine ⟨(StabL.anc rfl (StabL.st (StabA.of rfl (PO.loadBA (cs := [(.int .i64 x72), (.int .i64 x73), (.string x74), (.int .i64 x75)]) 3 ag29 sz29 hs82_10 rfl rfl) rfl) (StabL.st (StabA.of rfl (PO.move hs82_0) rfl) trivial))), ?_⟩
 refine WT.a0 ?_
 obtain ⟨⟨r118, r119⟩, hr120, h⟩ := bnd h
 refine WT.alt rfl (EO.call0 co81 (f_ref02_num_ok a0 (⟨x72, x73, x74, x75⟩ : T_ref02_State) r113 _ _ h0 (r118, r119) hr120) (args3 rfl rfl rfl)) rfl ?_ ?_
 rintro _ M121 _ hle122 ⟨_, ⟨rfl, rfl⟩, rfl⟩
 have h0 := h0.mono hle122
 have hx70 := hx70.mono hle122
 refine ⟨(StabL.anc rfl (StabL.anc rfl (StabL.anc rfl trivial))), ?_⟩
 refine WT.a0 ?_
 refine Tp (.tuple #[(a29_ r118), (.int .u64 r119)]) rfl (PO.move rfl) rfl ?_
 refine Tp (a29_ r118) rfl (PO.extract rfl rfl) rfl ?_
 refine Tp (.int .u64 r119) rfl (PO.extract rfl rfl) rfl ?_
 refine WT.alt rfl (EO.storeL (v := (a29_ r118)) (vl := (l29 r118)) (arr' := (l29 r118)) rfl sz29 rfl rfl (onesOf (Ones.cons rfl (Ones.cons rfl (Ones.cons rfl (Ones.cons rfl Ones.nil))))) rfl rfl rfl) rfl ?_ ?_
 rintro _ _ _ - ⟨rfl, rfl⟩
 refine ⟨(StabL.st (StabA.of rfl (PO.extract rfl rfl) rfl) (StabL.anc rfl (StabL.anc rfl (StabL.anc rfl (StabL.anc rfl (StabL.anc rfl trivial)))))), ?_⟩
 refine Tp (.int .u64 r119) rfl (PO.assign rfl) rfl ?_
 refine WT.fin ?_
 refine WQ.f4 ?_
 refine WQ.f1 ?_
 refine WQ.f4 ?_
 refine WQ.f4 ?_
 refine WQ.f4 ?_
 obtain rfl := Option.some.inj h
 refine WQ.thenJ ?_
 exact ⟨g112, (hle116.trans hle122), rfl, hs82_0, hs82_3, hs82_8, hs82_10, hs82_11, hs82_12, hs82_13, rfl, rfl⟩
 exact WT.no
 exact WT.no
 exact WT.no
 exact WT.no
 obtain ⟨x86, x87⟩ := j88
 rintro ρ88 M88 H88 ⟨g85, hle88, rfl, hs88_0, hs88_3, hs88_8, hs88_10, hs88_11, hs88_12, hs88_13, hs88_14, hs88_15⟩
 have h0 := h0.mono hle88
 have hx70 := hx70.mono hle88
 refine Sr ?_
 refine Pu (a29_ x86) (PO.loadBA (cs := (l29 x86)) 3 ag29 sz29 hs88_14 rfl rfl) rfl ?_
 refine WL.f2 ?_
 refine WL.eff (EO.storeL (v := (a29_ x86)) (vl := (l29 x86)) (arr' := (l29 x86)) rfl sz29 hs88_10 rfl (onesOf (Ones.cons rfl (Ones.cons rfl (Ones.cons rfl (Ones.cons rfl Ones.nil))))) rfl rfl rfl) rfl ?_
 rintro _ _ _ - ⟨rfl, rfl⟩
 refine Nt ?_
 refine WC.region ?_
 refine Pm vx70 hs88_12 rfl ?_
 refine Pm (.int .u64 x87) hs88_15 rfl ?_
 refine Pu (.int .i64 (IntKind.i64.wrap x87)) (PO.conv us90 Tryz.underlying3 rfl) rfl ?_
 refine WL.eff (EO.buildSliceL (cl := [(.int .i64 (IntKind.i64.wrap x87))]) Tryz.underlying33 iz3 rfl (Parts.cons (congrArg Value.cells (show ev _ _ = (.int .i64 (IntKind.i64.wrap x87)) from rfl)) Parts.nil) rfl) rfl ?_
 rintro _ _ _ - ⟨rfl, g125, rfl, rfl⟩
 have h127 : OwnS (Kd.int .i64) M88 (.slice (some ⟨g125, 0, none⟩) 1 1) [IntKind.i64.wrap x87] [(g125, .cells #[(.int .i64 (IntKind.i64.wrap x87))] 3 (0, 0))] := OwnS.rows (css := [[(.int .i64 (IntKind.i64.wrap x87))]]) (Rows.cons rfl Rows.nil) rfl rfl
 obtain ⟨hg131, h⟩ := grd_i h
 refine WL.f5 ?_
 refine WL.eff (EO.append (dd := (Kd.int .i64)) (xs := x70) (ys := [IntKind.i64.wrap x87]) Tryz.underlying33 Tryz.underlying33 in3 rfl (appB (by decide) hg131) (by decide) rfl rfl hx70 (h127.src 1 rfl)) rfl ?_
 rintro v130 _ _ - ⟨rfl, c128, rfl, h129⟩
 refine Pa v130 rfl rfl ?_
 refine WL.nil ?_
 refine WQ.blockN ?_
 refine WQ.thenC ?_
 refine WC.region ?_
 refine Pm (.int .u64 x71) hs88_13 rfl ?_
 refine Pu (.int .u64 (IntKind.u64.wrap (x71 + 1))) (PO.add rfl rfl) rfl ?_
 refine Pa (.int .u64 (IntKind.u64.wrap (x71 + 1))) rfl rfl ?_
 refine WL.nil ?_
 refine WQ.f1 ?_
 refine WQ.drop ?_
 refine WQ.f4 ?_
 refine WQ.drop ?_
 refine WQ.f1 ?_
 refine WQ.f3 ?_
 refine WQ.f3 ?_
 refine WQ.again (x70 ++ [IntKind.i64.wrap x87], IntKind.u64.wrap (x71 + 1), x86.At, x86.Code, x86.Op, x86.Where) (Option.some.inj h).symm ?_
 exact ⟨v130, c128, ((hle69.trans hle82).trans hle88), rfl, hs88_0, hs88_3, hs88_8, hs88_10, hs88_11, rfl, rfl, h129⟩
 have h := ite_f hb84 h
 refine WC.exit ?_
 refine WQ.thenE ?_
 refine WQ.leaveE (x70, x72, x73, x74, x75) (Option.some.inj h).symm (fun heq69 => ?_)
 subst heq69
 have h := hK69
 refine WQ.blockH ?_
 obtain rfl := Option.some.inj h
 refine WQ.thenJ ?_
 exact ⟨vx70, cx70, (hle69.trans hle82), rfl, hs82_8, hs82_10, hs82_12, hx70⟩
 obtain ⟨x63, x64, x65, x66, x67⟩ := j68
 rintro ρ68 M68 H68 ⟨vx63, cx63, hle68, rfl, hs68_8, hs68_10, hs68_12, hx63⟩
 refine WC.seq ?_
 refine Sr ?_
 refine Pu (pt g23 1) (PO.fieldAddr fo29_1 hs68_10 rfl) rfl ?_
 refine Pu (.int .i64 x65) (PO.loadB 2 pl27 rfl rfl rfl) rfl ?_
 refine Pu (.bool (decide (x65 ≠ 0))) (PO.neq rfl rfl) rfl ?_
 refine Nt ?_
 refine WC.cond (b := decide (x65 ≠ 0)) rfl (fun hb133 => ?_) (fun hb133 => ?_)
 have h := ite_t hb133 h
 refine Sr ?_
 refine Pu (.agg #[(.int .i64 x64), (.int .i64 x65), (.string x66), (.int .i64 x67)]) (PO.loadBA (cs := [(.int .i64 x64), (.int .i64 x65), (.string x66), (.int .i64 x67)]) 2 ag29 sz29 hs68_10 rfl rfl) rfl ?_
 refine WL.eff (EO.storeL (v := (.agg #[(.int .i64 x64), (.int .i64 x65), (.string x66), (.int .i64 x67)])) (vl := [(.int .i64 x64), (.int .i64 x65), (.string x66), (.int .i64 x67)]) (arr' := [(.int .i64 x64), (.int .i64 x65), (.string x66), (.int .i64 x67)]) rfl sz29 hs68_8 rfl (onesOf (Ones.cons rfl (Ones.cons rfl (Ones.cons rfl (Ones.cons rfl Ones.nil))))) rfl rfl rfl) rfl ?_
 rintro _ _ _ - ⟨rfl, rfl⟩
 refine Pa (.slice none 0 0) rfl rfl ?_
 refine Nt ?_
 refine WC.ret ?_
 refine WQ.thenR ?_
 refine WQ.e0 ?_
 refine WQ.f2 ?_
 refine WQ.drop ?_
 refine WQ.f2 ?_
 refine WQ.drop ?_
 refine WQ.f2 ?_
 refine WQ.drop ?_
 refine WQ.f1 ?_
 exact WQ.returnsD h [[]] (fun _ hs => hs.drop) (resultsLN rfl (RVs.cons (RV.cellA (cs := [(.int .i64 x64), (.int .i64 x65), (.string x66), (.int .i64 x67)]) 0 ag29 sz29 hs68_8 rfl rfl) (RVs.cons (RV.tmp rfl) RVs.nil))) (hle26.trans hle68) ⟨(.slice none 0 0), [], rfl, rfl, (OwnS.nil _ _)⟩
 have h := ite_f hb133 h
 refine WC.skip ?_
 refine WQ.thenC ?_
 refine Sr ?_
 refine Pu (.agg #[(.int .i64 x64), (.int .i64 x65), (.string x66), (.int .i64 x67)]) (PO.loadBA (cs := [(.int .i64 x64), (.int .i64 x65), (.string x66), (.int .i64 x67)]) 2 ag29 sz29 hs68_10 rfl rfl) rfl ?_
 refine Pm vx63 hs68_12 rfl ?_
 refine WL.eff (EO.storeL (v := (.agg #[(.int .i64 x64), (.int .i64 x65), (.string x66), (.int .i64 x67)])) (vl := [(.int .i64 x64), (.int .i64 x65), (.string x66), (.int .i64 x67)]) (arr' := [(.int .i64 x64), (.int .i64 x65), (.string x66), (.int .i64 x67)]) rfl sz29 hs68_8 rfl (onesOf (Ones.cons rfl (Ones.cons rfl (Ones.cons rfl (Ones.cons rfl Ones.nil))))) rfl rfl rfl) rfl ?_
 rintro _ _ _ - ⟨rfl, rfl⟩
 refine Pa vx63 rfl rfl ?_
 refine Nt ?_
 refine WC.ret ?_
 refine WQ.f1 ?_
 refine WQ.drop ?_
 refine WQ.f1 ?_
 refine WQ.drop ?_
 exact WQ.returnsD h [cx63] (fun _ hs => hs.drop) (resultsLN rfl (RVs.cons (RV.cellA (cs := [(.int .i64 x64), (.int .i64 x65), (.string x66), (.int .i64 x67)]) 0 ag29 sz29 hs68_8 rfl rfl) (RVs.cons (RV.tmp rfl) RVs.nil))) (hle26.trans hle68) ⟨vx63, cx63, rfl, rfl, hx63⟩

noncomputable def f_ref02_Read (a0 : (List Int)) (a1 : T_ref02_State) (a2 : T_ref02_Ask) : Option (T_ref02_State × T_ref02_Got) :=
  (if (decide (a1.Code ≠ (0 : Int))) = true then (some (a1, (⟨(0 : Int), false, [], []⟩ : T_ref02_Got))) else (((if (decide (a2.Kind = (0 : Int))) = true then (some (decide (a2.Kind = (0 : Int)))) else (some (decide (a2.Kind = (1 : Int))))) : Option Bool).bind fun (x27 : Bool) => (if x27 = true then ((((f_ref02_above a2.Most).bind fun (r36 : Int) => ((f_ref02_num a0 a1 r36).bind fun (r42, r43) => (some (r42, r43)))) : Option (T_ref02_State × Int)).bind fun (x32, x33) => (some (x32, (⟨x33, false, [], []⟩ : T_ref02_Got)))) else (if (decide (a2.Kind = (2 : Int))) = true then (if (decide ((a0.length : Int) ≤ a1.At)) = true then ((f_ref02_bad a1 (⟨#[102, 108, 97, 103]⟩ : ByteArray) a1.At (3 : Int)).bind fun (r74 : T_ref02_State) => (some (r74, (⟨(0 : Int), false, [], []⟩ : T_ref02_Got)))) else (grd (0 ≤ a1.At ∧ a1.At < a0.length) (if (decide ((1 : Int) < (rd a0 a1.At))) = true then ((f_ref02_bad a1 (⟨#[102, 108, 97, 103]⟩ : ByteArray) a1.At (5 : Int)).bind fun (r88 : T_ref02_State) => (some (r88, (⟨(0 : Int), false, [], []⟩ : T_ref02_Got)))) else (grd (0 ≤ a1.At ∧ a1.At < a0.length) (some ((⟨IntKind.i64.wrap (a1.At + (1 : Int)), (0 : Int), (⟨#[]⟩ : ByteArray), (0 : Int)⟩ : T_ref02_State), (⟨(0 : Int), decide ((rd a0 a1.At) = (1 : Int)), [], []⟩ : T_ref02_Got))))))) else (if (decide (a2.Kind = (3 : Int))) = true then ((f_ref02_text a0 a1 a2.Most).bind fun (r103, r104) => (some (r103, (⟨(0 : Int), false, r104, []⟩ : T_ref02_Got)))) else ((f_ref02_row a0 a1 a2.Most a2.Each).bind fun (r112, r113) => (some (r112, (⟨(0 : Int), false, [], r113⟩ : T_ref02_Got)))))))))
def f_ref02_Read_post (a0 : (List Int)) (a1 : T_ref02_State) (a2 : T_ref02_Ask) (v0 : Value) : (T_ref02_State × T_ref02_Got) → Value → IM → HL → Prop :=
  fun (p_ : (T_ref02_State × T_ref02_Got)) (v : Value) (M' : IM) (H' : HL) => match p_ with | (r0, r1) => ∃ vz1_2 vz1_3 cz1_3, (.tuple #[(.agg #[(.int .i64 r0.At), (.int .i64 r0.Code), (.string r0.Op), (.int .i64 r0.Where)]), (.agg #[(.int .u64 r1.Num), (.bool r1.Flag), vz1_2, vz1_3])]) = v ∧ H' = [cz1_3] ∧ RS (Kd.int .u8) M' vz1_2 r1.Text ∧ OwnS (Kd.int .i64) M' vz1_3 r1.Row cz1_3
theorem f_ref02_Read_ok (a0 : (List Int)) (a1 : T_ref02_State) (a2 : T_ref02_Ask) (M : IM) (v0 : Value) (h0 : RS (Kd.int .u8) M v0 a0) (res : (T_ref02_State × T_ref02_Got)) (h : f_ref02_Read a0 a1 a2 = some res) :
    Tri Tryz.prog 64 #[v0, (a29_ a1), (a100_ a2)] M [] (f_ref02_Read_post a0 a1 a2 v0 res) := by
 unfold f_ref02_Read at h
 refine Tri.enter (fn := Tryz.f64) Tryz.func64 rfl (Nat.le_of_ble_eq_true rfl) ?_
 intro F ρ hρ
 refine Sr ?_
 refine WL.eff (EO.box (cs := (l29 a1).toArray) (congrArg Value.cells (asE (a29_ a1) (hρ 1)))) rfl ?_
 rintro _ _ _ - ⟨rfl, g21, rfl, rfl⟩
 refine WL.eff (EO.box (cs := (l100 a2).toArray) (congrArg Value.cells (asE (a100_ a2) (hρ 2)))) rfl ?_
 rintro _ _ _ - ⟨rfl, g22, rfl, rfl⟩
 refine WL.eff (EO.alloc ze29 rfl) rfl ?_
 rintro _ _ _ - ⟨rfl, g23, rfl, rfl⟩
 refine WL.eff (EO.alloc ze96 rfl) rfl ?_
 rintro _ _ _ - ⟨rfl, g24, rfl, rfl⟩
 refine Nt ?_
 refine WC.seq ?_
 refine Sr ?_
 refine Pu (pt g21 1) (PO.fieldAddr fo29_1 rfl rfl) rfl ?_
 refine Pu (.int .i64 a1.Code) (PO.loadB 3 pl27 rfl rfl rfl) rfl ?_
 refine Pu (.bool (decide (a1.Code ≠ 0))) (PO.neq rfl rfl) rfl ?_
 refine Nt ?_
 refine WC.cond (b := decide (a1.Code ≠ 0)) rfl (fun hb25 => ?_) (fun hb25 => ?_)
 have h := ite_t hb25 h
 refine Sr ?_
 refine Pu (a29_ a1) (PO.loadBA (cs := (l29 a1)) 3 ag29 sz29 rfl rfl rfl) rfl ?_
 refine Pu (.agg #[(.int .u64 0), (.bool false), (.slice none 0 0), (.slice none 0 0)]) (PO.buildL (cl := [(.int .u64 0), (.bool false), (.slice none 0 0), (.slice none 0 0)]) ze96 fp96 Parts.nil rfl) rfl ?_
 refine WL.f1 ?_
 refine WL.eff (EO.storeL (v := (a29_ a1)) (vl := (l29 a1)) (arr' := (l29 a1)) rfl sz29 rfl rfl (onesOf (Ones.cons rfl (Ones.cons rfl (Ones.cons rfl (Ones.cons rfl Ones.nil))))) rfl rfl rfl) rfl ?_
 rintro _ _ _ - ⟨rfl, rfl⟩
 refine WL.f1 ?_
 refine WL.eff (EO.storeL (v := (.agg #[(.int .u64 0), (.bool false), (.slice none 0 0), (.slice none 0 0)])) (vl := [(.int .u64 0), (.bool false), (.slice none 0 0), (.slice none 0 0)]) (arr' := [(.int .u64 0), (.bool false), (.slice none 0 0), (.slice none 0 0)]) rfl sz96 rfl rfl (onesOf (Ones.cons rfl (Ones.cons rfl (Ones.cons rfl (Ones.cons rfl Ones.nil))))) rfl rfl rfl) rfl ?_
 rintro _ _ _ - ⟨rfl, rfl⟩
 refine Nt ?_
 refine WC.ret ?_
 refine WQ.thenR ?_
 refine WQ.e0 ?_
 refine WQ.f3 ?_
 refine WQ.drop ?_
 refine WQ.f3 ?_
 refine WQ.drop ?_
 refine WQ.f1 ?_
 refine WQ.f2 ?_
 exact WQ.returnsD h [[]] (fun _ hs => hs.drop.drop) (resultsLN rfl (RVs.cons (RV.cellA (cs := (l29 a1)) 0 ag29 sz29 rfl rfl rfl) (RVs.cons (RV.cellA (cs := [(.int .u64 0), (.bool false), (.slice none 0 0), (.slice none 0 0)]) 1 ag96 sz96 rfl rfl rfl) RVs.nil))) (IM.le.refl _) ⟨(.slice none 0 0), (.slice none 0 0), [], rfl, rfl, RS.nil _ _, (OwnS.nil _ _)⟩
 have h := ite_f hb25 h
 refine WC.skip ?_
 refine WQ.thenC ?_
 refine WC.seq ?_
 refine Sr ?_
 refine Pu (pt g22 0) (PO.fieldAddr fo100_0 rfl rfl) rfl ?_
 refine Pu (.int .i64 a2.Kind) (PO.loadB 2 pl3 rfl rfl rfl) rfl ?_
 refine Nt ?_
 refine WC.block ?_
 obtain ⟨x27, hj28, h⟩ := bnd h
 refine WC.joinF (fun (x27 : Bool) ρ' M' H' => M.le M' ∧ [(g24, .cells #[(.int .u64 0), (.bool false), (.slice none 0 0), (.slice none 0 0)] 96 (0, 0))] :: [(g23, .cells z29_.toArray 29 (0, 0))] :: [(g22, .cells (l100 a2).toArray 100 (0, 0))] :: [(g21, .cells (l29 a1).toArray 29 (0, 0))] :: F = H' ∧ ρ' 0 = v0 ∧ ρ' 4 = (pt g21 0) ∧ ρ' 5 = (pt g22 0) ∧ ρ' 6 = (pt g23 0) ∧ ρ' 7 = (pt g24 0) ∧ ρ' 20 = (.int .i64 a2.Kind) ∧ ρ' 21 = (.bool x27)) x27 ?_ ?_
 have h328 := h
 have h := hj28
 refine Sr ?_
 refine Pu (.bool (decide (a2.Kind = 0))) (PO.eql rfl rfl) rfl ?_
 refine Pa (.bool (decide (a2.Kind = 0))) rfl rfl ?_
 refine Nt ?_
 refine WC.cond (b := decide (a2.Kind = 0)) rfl (fun hb29 => ?_) (fun hb29 => ?_)
 have h := ite_t hb29 h
 refine WC.skip ?_
 obtain rfl := Option.some.inj h
 refine WQ.thenJ ?_
 exact ⟨(IM.le.refl _), rfl, (hρ 0), rfl, rfl, rfl, rfl, rfl, rfl⟩
 have h := ite_f hb29 h
 refine WC.region ?_
 refine Pu (.bool (decide (a2.Kind = 1))) (PO.eql rfl rfl) rfl ?_
 refine Pa (.bool (decide (a2.Kind = 1))) rfl rfl ?_
 refine WL.nil ?_
 obtain rfl := Option.some.inj h
 refine WQ.thenJ ?_
 exact ⟨(IM.le.refl _), rfl, (hρ 0), rfl, rfl, rfl, rfl, rfl, rfl⟩
 rintro ρ28 M28 H28 ⟨hle28, rfl, hs28_0, hs28_4, hs28_5, hs28_6, hs28_7, hs28_20, hs28_21⟩
 have h0 := h0.mono hle28
 refine WC.cond (b := x27) hs28_21 (fun hb30 => ?_) (fun hb30 => ?_)
 have h := ite_t hb30 h
 obtain ⟨j34, hj34, h⟩ := bnd h
 refine WC.joinF (fun (p_ : (T_ref02_State × Int)) ρ' M' H' => match p_ with | (x32, x33) => ∃ g31, M28.le M' ∧ [(g24, .cells #[(.int .u64 0), (.bool false), (.slice none 0 0), (.slice none 0 0)] 96 (0, 0))] :: [(g23, .cells z29_.toArray 29 (0, 0))] :: [(g22, .cells (l100 a2).toArray 100 (0, 0))] :: [(g21, .cells (l29 a1).toArray 29 (0, 0))] :: [(g31, .cells (l29 x32).toArray 29 (0, 0))] :: F = H' ∧ ρ' 6 = (pt g23 0) ∧ ρ' 7 = (pt g24 0) ∧ ρ' 8 = (pt g31 0) ∧ ρ' 9 = (.int .u64 x33)) j34 ?_ ?_
 have h334 := h
 have h := hj34
 refine WC.draw [0, 0, 0, 4, 12, 31, 63, 127, 127, 0, 767, 2047] (.pure 0 (.pure 1 (.pure 2 (.pure 3 (.alt 4 (.alt 5 (.pure 6 (.pure 7 (.pure 8 (.alt 9 (.alt 10 (.pure 11 .done) .none) .none)))) (.alt 9 (.alt 5 (.pure 6 (.pure 7 (.pure 8 (.alt 10 (.pure 11 .done) .none)))) .none) .none)) (.alt 9 (.alt 4 (.alt 5 (.pure 6 (.pure 7 (.pure 8 (.alt 10 (.pure 11 .done) .none)))) .none) .none) .none)))))) mixed (by kernel_rfl) ?_
 refine Tp v0 rfl (PO.move hs28_0) rfl ?_
 refine Tp (a29_ a1) rfl (PO.loadBA (cs := (l29 a1)) 3 ag29 sz29 hs28_4 rfl rfl) rfl ?_
 refine Tp (pt g22 1) rfl (PO.fieldAddr fo100_1 hs28_5 rfl) rfl ?_
 refine Tp (.int .i64 a2.Most) rfl (PO.loadB 2 pl3 rfl rfl rfl) rfl ?_
 have hk35 := h
 obtain ⟨r36, hr37, h⟩ := bnd h
 refine WT.alt rfl (EO.call0 co82 (f_ref02_above_ok a2.Most _ r36 hr37) (args1 rfl)) rfl ?_ ?_
 rintro _ M38 _ hle39 ⟨_, ⟨rfl, rfl⟩, rfl⟩
 have h0 := h0.mono hle39
 refine ⟨(StabL.anc rfl (StabL.anc rfl (StabL.st (StabA.of rfl (PO.loadBA (cs := (l29 a1)) 3 ag29 sz29 hs28_4 rfl rfl) rfl) (StabL.st (StabA.of rfl (PO.move hs28_0) rfl) trivial)))), ?_⟩
 refine WT.a0 ?_
 have hk41 := h
 obtain ⟨⟨r42, r43⟩, hr44, h⟩ := bnd h
 refine WT.alt rfl (EO.call0 co81 (f_ref02_num_ok a0 a1 r36 _ _ h0 (r42, r43) hr44) (args3 rfl rfl rfl)) rfl ?_ ?_
 rintro _ M45 _ hle46 ⟨_, ⟨rfl, rfl⟩, rfl⟩
 have h0 := h0.mono hle46
 refine ⟨(StabL.anc rfl (StabL.anc rfl (StabL.anc rfl (StabL.anc rfl trivial)))), ?_⟩
 refine WT.a0 ?_
 refine Tp (.tuple #[(a29_ r42), (.int .u64 r43)]) rfl (PO.move rfl) rfl ?_
 refine Tp (a29_ r42) rfl (PO.extract rfl rfl) rfl ?_
 refine Tp (.int .u64 r43) rfl (PO.extract rfl rfl) rfl ?_
 refine WT.alt rfl (EO.alloc ze29 rfl) rfl ?_ ?_
 rintro _ _ _ - ⟨rfl, g49, rfl, rfl⟩
 refine ⟨(StabL.st (StabA.of rfl (PO.extract rfl rfl) rfl) (StabL.st (StabA.of rfl (PO.extract rfl rfl) rfl) (StabL.st (StabA.of rfl (PO.move rfl) rfl) (StabL.st (StabA.of rfl (PO.loadB 3 pl3 rfl rfl rfl) rfl) (StabL.st (StabA.of rfl (PO.fieldAddr fo100_1 hs28_5 rfl) rfl) (StabL.st (StabA.of rfl (PO.loadBA (cs := (l29 a1)) 4 ag29 sz29 hs28_4 rfl rfl) rfl) (StabL.st (StabA.of rfl (PO.move hs28_0) rfl) trivial))))))), ?_⟩
 refine WT.alt rfl (EO.storeL (v := (a29_ r42)) (vl := (l29 r42)) (arr' := (l29 r42)) rfl sz29 rfl rfl (onesOf (Ones.cons rfl (Ones.cons rfl (Ones.cons rfl (Ones.cons rfl Ones.nil))))) rfl rfl rfl) rfl ?_ ?_
 rintro _ _ _ - ⟨rfl, rfl⟩
 refine ⟨(StabL.st (StabA.of rfl (PO.extract rfl rfl) rfl) (StabL.anc rfl (StabL.anc rfl (StabL.anc rfl (StabL.anc rfl (StabL.anc rfl (StabL.anc rfl trivial))))))), ?_⟩
 refine Tp (.int .u64 r43) rfl (PO.assign rfl) rfl ?_
 refine WT.fin ?_
 refine WQ.f4 ?_
 refine WQ.f4 ?_
 refine WQ.f4 ?_
 refine WQ.f4 ?_
 obtain rfl := Option.some.inj h
 refine WQ.thenJ ?_
 exact ⟨g49, (hle39.trans hle46), rfl, hs28_6, hs28_7, rfl, rfl⟩
 exact WT.no
 exact WT.no
 have h := hk41
 refine WT.alt rfl (EO.alloc ze29 rfl) rfl ?_ ?_
 rintro _ _ _ - ⟨rfl, g50, rfl, rfl⟩
 refine ⟨(StabL.st (StabA.of rfl (PO.loadB 3 pl3 rfl rfl rfl) rfl) (StabL.st (StabA.of rfl (PO.fieldAddr fo100_1 hs28_5 rfl) rfl) (StabL.st (StabA.of rfl (PO.loadBA (cs := (l29 a1)) 4 ag29 sz29 hs28_4 rfl rfl) rfl) (StabL.st (StabA.of rfl (PO.move hs28_0) rfl) trivial)))), ?_⟩
 obtain ⟨⟨r51, r52⟩, hr53, h⟩ := bnd h
 refine WT.alt rfl (EO.call0 co81 (f_ref02_num_ok a0 a1 r36 _ _ h0 (r51, r52) hr53) (args3 rfl rfl rfl)) rfl ?_ ?_
 rintro _ M54 _ hle55 ⟨_, ⟨rfl, rfl⟩, rfl⟩
 have h0 := h0.mono hle55
 refine ⟨(StabL.anc rfl (StabL.anc rfl (StabL.anc rfl (StabL.anc rfl trivial)))), ?_⟩
 refine WT.a0 ?_
 refine Tp (.tuple #[(a29_ r51), (.int .u64 r52)]) rfl (PO.move rfl) rfl ?_
 refine Tp (a29_ r51) rfl (PO.extract rfl rfl) rfl ?_
 refine Tp (.int .u64 r52) rfl (PO.extract rfl rfl) rfl ?_
 refine WT.alt rfl (EO.storeL (v := (a29_ r51)) (vl := (l29 r51)) (arr' := (l29 r51)) rfl sz29 rfl rfl (onesOf (Ones.cons rfl (Ones.cons rfl (Ones.cons rfl (Ones.cons rfl Ones.nil))))) rfl rfl rfl) rfl ?_ ?_
 rintro _ _ _ - ⟨rfl, rfl⟩
 refine ⟨(StabL.st (StabA.of rfl (PO.extract rfl rfl) rfl) (StabL.anc rfl (StabL.anc rfl (StabL.anc rfl (StabL.anc rfl (StabL.anc rfl (StabL.anc rfl trivial))))))), ?_⟩
 refine Tp (.int .u64 r52) rfl (PO.assign rfl) rfl ?_
 refine WT.fin ?_
 refine WQ.f4 ?_
 refine WQ.f4 ?_
 refine WQ.f4 ?_
 refine WQ.f4 ?_
 obtain rfl := Option.some.inj h
 refine WQ.thenJ ?_
 exact ⟨g50, (hle39.trans hle55), rfl, hs28_6, hs28_7, rfl, rfl⟩
 exact WT.no
 exact WT.no
 exact WT.no
 have h := hk35
 refine WT.alt rfl (EO.alloc ze29 rfl) rfl ?_ ?_
 rintro _ _ _ - ⟨rfl, g58, rfl, rfl⟩
 refine ⟨(StabL.st (StabA.of rfl (PO.loadB 3 pl3 rfl rfl rfl) rfl) (StabL.st (StabA.of rfl (PO.fieldAddr fo100_1 hs28_5 rfl) rfl) (StabL.st (StabA.of rfl (PO.loadBA (cs := (l29 a1)) 4 ag29 sz29 hs28_4 rfl rfl) rfl) (StabL.st (StabA.of rfl (PO.move hs28_0) rfl) trivial)))), ?_⟩
 obtain ⟨r59, hr60, h⟩ := bnd h
 refine WT.alt rfl (EO.call0 co82 (f_ref02_above_ok a2.Most _ r59 hr60) (args1 rfl)) rfl ?_ ?_
 rintro _ M61 _ hle62 ⟨_, ⟨rfl, rfl⟩, rfl⟩
 have h0 := h0.mono hle62
 refine ⟨(StabL.anc rfl (StabL.anc rfl (StabL.st (StabA.of rfl (PO.loadBA (cs := (l29 a1)) 4 ag29 sz29 hs28_4 rfl rfl) rfl) (StabL.st (StabA.of rfl (PO.move hs28_0) rfl) trivial)))), ?_⟩
 refine WT.a0 ?_
 obtain ⟨⟨r64, r65⟩, hr66, h⟩ := bnd h
 refine WT.alt rfl (EO.call0 co81 (f_ref02_num_ok a0 a1 r59 _ _ h0 (r64, r65) hr66) (args3 rfl rfl rfl)) rfl ?_ ?_
 rintro _ M67 _ hle68 ⟨_, ⟨rfl, rfl⟩, rfl⟩
 have h0 := h0.mono hle68
 refine ⟨(StabL.anc rfl (StabL.anc rfl (StabL.anc rfl (StabL.anc rfl trivial)))), ?_⟩
 refine WT.a0 ?_
 refine Tp (.tuple #[(a29_ r64), (.int .u64 r65)]) rfl (PO.move rfl) rfl ?_
 refine Tp (a29_ r64) rfl (PO.extract rfl rfl) rfl ?_
 refine Tp (.int .u64 r65) rfl (PO.extract rfl rfl) rfl ?_
 refine WT.alt rfl (EO.storeL (v := (a29_ r64)) (vl := (l29 r64)) (arr' := (l29 r64)) rfl sz29 rfl rfl (onesOf (Ones.cons rfl (Ones.cons rfl (Ones.cons rfl (Ones.cons rfl Ones.nil))))) rfl rfl rfl) rfl ?_ ?_
 rintro _ _ _ - ⟨rfl, rfl⟩
 refine ⟨(StabL.st (StabA.of rfl (PO.extract rfl rfl) rfl) (StabL.anc rfl (StabL.anc rfl (StabL.anc rfl (StabL.anc rfl (StabL.anc rfl (StabL.anc rfl trivial))))))), ?_⟩
 refine Tp (.int .u64 r65) rfl (PO.assign rfl) rfl ?_
 refine WT.fin ?_
 refine WQ.f4 ?_
 refine WQ.f4 ?_
 refine WQ.f4 ?_
 refine WQ.f4 ?_
 obtain rfl := Option.some.inj h
 refine WQ.thenJ ?_
 exact ⟨g58, (hle62.trans hle68), rfl, hs28_6, hs28_7, rfl, rfl⟩
 exact WT.no
 exact WT.no
 exact WT.no
 exact WT.no
 obtain ⟨x32, x33⟩ := j34
 rintro ρ34 M34 H34 ⟨g31, hle34, rfl, hs34_6, hs34_7, hs34_8, hs34_9⟩
 refine Sr ?_
 refine Pu (a29_ x32) (PO.loadBA (cs := (l29 x32)) 4 ag29 sz29 hs34_8 rfl rfl) rfl ?_
 refine Pm (.int .u64 x33) hs34_9 rfl ?_
 refine Pu (.agg #[(.int .u64 x33), (.bool false), (.slice none 0 0), (.slice none 0 0)]) (PO.buildL (cl := [(.int .u64 x33), (.bool false), (.slice none 0 0), (.slice none 0 0)]) ze96 fp96 (Parts.cons (congrArg Value.cells (show ev _ _ = (.int .u64 x33) from rfl)) Parts.nil) rfl) rfl ?_
 refine WL.f1 ?_
 refine WL.eff (EO.storeL (v := (a29_ x32)) (vl := (l29 x32)) (arr' := (l29 x32)) rfl sz29 hs34_6 rfl (onesOf (Ones.cons rfl (Ones.cons rfl (Ones.cons rfl (Ones.cons rfl Ones.nil))))) rfl rfl rfl) rfl ?_
 rintro _ _ _ - ⟨rfl, rfl⟩
 refine WL.f1 ?_
 refine WL.eff (EO.storeL (v := (.agg #[(.int .u64 x33), (.bool false), (.slice none 0 0), (.slice none 0 0)])) (vl := [(.int .u64 x33), (.bool false), (.slice none 0 0), (.slice none 0 0)]) (arr' := [(.int .u64 x33), (.bool false), (.slice none 0 0), (.slice none 0 0)]) rfl sz96 hs34_7 rfl (onesOf (Ones.cons rfl (Ones.cons rfl (Ones.cons rfl (Ones.cons rfl Ones.nil))))) rfl rfl rfl) rfl ?_
 rintro _ _ _ - ⟨rfl, rfl⟩
 refine Nt ?_
 refine WC.ret ?_
 refine WQ.blockR ?_
 refine WQ.thenR ?_
 refine WQ.e0 ?_
 refine WQ.f3 ?_
 refine WQ.drop ?_
 refine WQ.f3 ?_
 refine WQ.drop ?_
 refine WQ.f3 ?_
 refine WQ.drop ?_
 refine WQ.f1 ?_
 refine WQ.f2 ?_
 exact WQ.returnsD h [[]] (fun _ hs => hs.drop.drop) (resultsLN rfl (RVs.cons (RV.cellA (cs := (l29 x32)) 0 ag29 sz29 hs34_6 rfl rfl) (RVs.cons (RV.cellA (cs := [(.int .u64 x33), (.bool false), (.slice none 0 0), (.slice none 0 0)]) 1 ag96 sz96 hs34_7 rfl rfl) RVs.nil))) (hle28.trans hle34) ⟨(.slice none 0 0), (.slice none 0 0), [], rfl, rfl, RS.nil _ _, (OwnS.nil _ _)⟩
 have h := ite_f hb30 h
 refine Sr ?_
 refine Pu (.bool (decide (a2.Kind = 2))) (PO.eql hs28_20 rfl) rfl ?_
 refine Pa (.bool (decide (a2.Kind = 2))) rfl rfl ?_
 refine Nt ?_
 refine WC.cond (b := decide (a2.Kind = 2)) rfl (fun hb72 => ?_) (fun hb72 => ?_)
 have h := ite_t hb72 h
 refine WC.seq ?_
 refine Sr ?_
 refine Pu (pt g21 0) (PO.fieldAddr fo29_0 hs28_4 rfl) rfl ?_
 refine Pu (.int .i64 a1.At) (PO.loadB 3 pl3 rfl rfl rfl) rfl ?_
 refine Pm v0 hs28_0 rfl ?_
 refine Pu (.int .i64 (a0.length : Int)) (PO.lenS Tryz.underlying22 rfl h0.len) rfl ?_
 refine Pu (.bool (decide ((a0.length : Int) ≤ a1.At))) (PO.geq rfl rfl) rfl ?_
 refine Nt ?_
 refine WC.cond (b := decide ((a0.length : Int) ≤ a1.At)) rfl (fun hb73 => ?_) (fun hb73 => ?_)
 have h := ite_t hb73 h
 refine Sr ?_
 refine Pu (a29_ a1) (PO.loadBA (cs := (l29 a1)) 3 ag29 sz29 hs28_4 rfl rfl) rfl ?_
 refine Pu (pt g21 0) (PO.fieldAddr fo29_0 hs28_4 rfl) rfl ?_
 refine Pu (.int .i64 a1.At) (PO.loadB 3 pl3 rfl rfl rfl) rfl ?_
 obtain ⟨r74, hr75, h⟩ := bnd h
 refine WL.eff (EO.call0 co70 (f_ref02_bad_ok a1 (⟨#[102, 108, 97, 103]⟩ : ByteArray) a1.At (3 : Int) _ r74 hr75) (args4 rfl rfl rfl rfl)) rfl ?_
 rintro _ M76 _ hle77 ⟨_, ⟨rfl, rfl⟩, rfl⟩
 have h0 := h0.mono hle77
 refine WL.a0 ?_
 refine Pu (.agg #[(.int .u64 0), (.bool false), (.slice none 0 0), (.slice none 0 0)]) (PO.buildL (cl := [(.int .u64 0), (.bool false), (.slice none 0 0), (.slice none 0 0)]) ze96 fp96 Parts.nil rfl) rfl ?_
 refine WL.f1 ?_
 refine WL.eff (EO.storeL (v := (a29_ r74)) (vl := (l29 r74)) (arr' := (l29 r74)) rfl sz29 hs28_6 rfl (onesOf (Ones.cons rfl (Ones.cons rfl (Ones.cons rfl (Ones.cons rfl Ones.nil))))) rfl rfl rfl) rfl ?_
 rintro _ _ _ - ⟨rfl, rfl⟩
 refine WL.f1 ?_
 refine WL.eff (EO.storeL (v := (.agg #[(.int .u64 0), (.bool false), (.slice none 0 0), (.slice none 0 0)])) (vl := [(.int .u64 0), (.bool false), (.slice none 0 0), (.slice none 0 0)]) (arr' := [(.int .u64 0), (.bool false), (.slice none 0 0), (.slice none 0 0)]) rfl sz96 hs28_7 rfl (onesOf (Ones.cons rfl (Ones.cons rfl (Ones.cons rfl (Ones.cons rfl Ones.nil))))) rfl rfl rfl) rfl ?_
 rintro _ _ _ - ⟨rfl, rfl⟩
 refine Nt ?_
 refine WC.ret ?_
 refine WQ.thenR ?_
 refine WQ.blockR ?_
 refine WQ.thenR ?_
 refine WQ.e0 ?_
 refine WQ.f3 ?_
 refine WQ.drop ?_
 refine WQ.f3 ?_
 refine WQ.drop ?_
 refine WQ.f1 ?_
 refine WQ.f2 ?_
 exact WQ.returnsD h [[]] (fun _ hs => hs.drop.drop) (resultsLN rfl (RVs.cons (RV.cellA (cs := (l29 r74)) 0 ag29 sz29 hs28_6 rfl rfl) (RVs.cons (RV.cellA (cs := [(.int .u64 0), (.bool false), (.slice none 0 0), (.slice none 0 0)]) 1 ag96 sz96 hs28_7 rfl rfl) RVs.nil))) (hle28.trans hle77) ⟨(.slice none 0 0), (.slice none 0 0), [], rfl, rfl, RS.nil _ _, (OwnS.nil _ _)⟩
 have h := ite_f hb73 h
 refine WC.skip ?_
 refine WQ.thenC ?_
 refine WC.seq ?_
 refine Sr ?_
 refine Pm v0 hs28_0 rfl ?_
 refine Pu (pt g21 0) (PO.fieldAddr fo29_0 hs28_4 rfl) rfl ?_
 refine Pu (.int .i64 a1.At) (PO.loadB 3 pl3 rfl rfl rfl) rfl ?_
 obtain ⟨hg80, h⟩ := grd_i h
 obtain ⟨p81, cs82, hat83, hrc84, hhas85⟩ := h0.at hg80.1 hg80.2 (by decide)
 obtain rfl := hrc84
 refine Pu (.pointer (some p81)) (PO.indexAddr (n := a0.length) Tryz.underlying22 sz5 rfl rfl hg80.1 hg80.2 hat83) rfl ?_
 refine Pu (.int .u8 (rd a0 a1.At)) (PO.loadM pl5 rfl (IM.has0 hhas85)) rfl ?_
 refine Pu (.bool (decide ((1 : Int) < (rd a0 a1.At)))) (PO.gtr rfl rfl) rfl ?_
 refine Nt ?_
 refine WC.cond (b := decide ((1 : Int) < (rd a0 a1.At))) rfl (fun hb87 => ?_) (fun hb87 => ?_)
 have h := ite_t hb87 h
 refine Sr ?_
 refine Pu (a29_ a1) (PO.loadBA (cs := (l29 a1)) 3 ag29 sz29 hs28_4 rfl rfl) rfl ?_
 refine Pu (pt g21 0) (PO.fieldAddr fo29_0 hs28_4 rfl) rfl ?_
 refine Pu (.int .i64 a1.At) (PO.loadB 3 pl3 rfl rfl rfl) rfl ?_
 obtain ⟨r88, hr89, h⟩ := bnd h
 refine WL.eff (EO.call0 co70 (f_ref02_bad_ok a1 (⟨#[102, 108, 97, 103]⟩ : ByteArray) a1.At (5 : Int) _ r88 hr89) (args4 rfl rfl rfl rfl)) rfl ?_
 rintro _ M90 _ hle91 ⟨_, ⟨rfl, rfl⟩, rfl⟩
 have h0 := h0.mono hle91
 refine WL.a0 ?_
 refine Pu (.agg #[(.int .u64 0), (.bool false), (.slice none 0 0), (.slice none 0 0)]) (PO.buildL (cl := [(.int .u64 0), (.bool false), (.slice none 0 0), (.slice none 0 0)]) ze96 fp96 Parts.nil rfl) rfl ?_
 refine WL.f1 ?_
 refine WL.eff (EO.storeL (v := (a29_ r88)) (vl := (l29 r88)) (arr' := (l29 r88)) rfl sz29 hs28_6 rfl (onesOf (Ones.cons rfl (Ones.cons rfl (Ones.cons rfl (Ones.cons rfl Ones.nil))))) rfl rfl rfl) rfl ?_
 rintro _ _ _ - ⟨rfl, rfl⟩
 refine WL.f1 ?_
 refine WL.eff (EO.storeL (v := (.agg #[(.int .u64 0), (.bool false), (.slice none 0 0), (.slice none 0 0)])) (vl := [(.int .u64 0), (.bool false), (.slice none 0 0), (.slice none 0 0)]) (arr' := [(.int .u64 0), (.bool false), (.slice none 0 0), (.slice none 0 0)]) rfl sz96 hs28_7 rfl (onesOf (Ones.cons rfl (Ones.cons rfl (Ones.cons rfl (Ones.cons rfl Ones.nil))))) rfl rfl rfl) rfl ?_
 rintro _ _ _ - ⟨rfl, rfl⟩
 refine Nt ?_
 refine WC.ret ?_
 refine WQ.thenR ?_
 refine WQ.blockR ?_
 refine WQ.thenR ?_
 refine WQ.e0 ?_
 refine WQ.f3 ?_
 refine WQ.drop ?_
 refine WQ.f3 ?_
 refine WQ.drop ?_
 refine WQ.f1 ?_
 refine WQ.f2 ?_
 exact WQ.returnsD h [[]] (fun _ hs => hs.drop.drop) (resultsLN rfl (RVs.cons (RV.cellA (cs := (l29 r88)) 0 ag29 sz29 hs28_6 rfl rfl) (RVs.cons (RV.cellA (cs := [(.int .u64 0), (.bool false), (.slice none 0 0), (.slice none 0 0)]) 1 ag96 sz96 hs28_7 rfl rfl) RVs.nil))) (hle28.trans hle91) ⟨(.slice none 0 0), (.slice none 0 0), [], rfl, rfl, RS.nil _ _, (OwnS.nil _ _)⟩
 have h := ite_f hb87 h
 refine WC.skip ?_
 refine WQ.thenC ?_
 refine WC.seq ?_
 refine WC.draw [0, 1, 3, 7, 0, 0, 32, 112, 240, 496, 1008, 15, 4095] (.pure 0 (.pure 1 (.pure 2 (.pure 3 (.pure 4 (.pure 5 (.pure 6 (.pure 7 (.pure 8 (.pure 9 (.pure 10 (.alt 11 (.alt 12 .done .none) .none)))))))))))) mixed (by kernel_rfl) ?_
 refine Tp (pt g21 0) rfl (PO.fieldAddr fo29_0 hs28_4 rfl) rfl ?_
 refine Tp (.int .i64 a1.At) rfl (PO.loadB 3 pl3 rfl rfl rfl) rfl ?_
 refine Tp (.int .i64 (IntKind.i64.wrap (a1.At + 1))) rfl (PO.add rfl rfl) rfl ?_
 refine Tp (.agg #[(.int .i64 (IntKind.i64.wrap (a1.At + 1))), (.int .i64 0), (.string ⟨#[]⟩), (.int .i64 0)]) rfl (PO.buildL (cl := [(.int .i64 (IntKind.i64.wrap (a1.At + 1))), (.int .i64 0), (.string ⟨#[]⟩), (.int .i64 0)]) ze29 fp29 (Parts.cons (congrArg Value.cells (show ev _ _ = (.int .i64 (IntKind.i64.wrap (a1.At + 1))) from rfl)) Parts.nil) rfl) rfl ?_
 refine Tp v0 rfl (PO.move hs28_0) rfl ?_
 refine Tp (pt g21 0) rfl (PO.fieldAddr fo29_0 hs28_4 rfl) rfl ?_
 refine Tp (.int .i64 a1.At) rfl (PO.loadB 3 pl3 rfl rfl rfl) rfl ?_
 obtain ⟨hg94, h⟩ := grd_i h
 obtain ⟨p95, cs96, hat97, hrc98, hhas99⟩ := h0.at hg94.1 hg94.2 (by decide)
 obtain rfl := hrc98
 refine Tp (.pointer (some p95)) rfl (PO.indexAddr (n := a0.length) Tryz.underlying22 sz5 rfl rfl hg94.1 hg94.2 hat97) rfl ?_
 refine Tp (.int .u8 (rd a0 a1.At)) rfl (PO.loadM pl5 rfl (IM.has0 hhas99)) rfl ?_
 refine Tp (.bool (decide ((rd a0 a1.At) = 1))) rfl (PO.eql rfl rfl) rfl ?_
 refine Tp (.agg #[(.int .u64 0), (.bool (decide ((rd a0 a1.At) = 1))), (.slice none 0 0), (.slice none 0 0)]) rfl (PO.buildL (cl := [(.int .u64 0), (.bool (decide ((rd a0 a1.At) = 1))), (.slice none 0 0), (.slice none 0 0)]) ze96 fp96 (Parts.cons (congrArg Value.cells (show ev _ _ = (.bool (decide ((rd a0 a1.At) = 1))) from rfl)) Parts.nil) rfl) rfl ?_
 refine WT.f1 ?_
 refine WT.alt rfl (EO.storeL (v := (.agg #[(.int .i64 (IntKind.i64.wrap (a1.At + 1))), (.int .i64 0), (.string ⟨#[]⟩), (.int .i64 0)])) (vl := [(.int .i64 (IntKind.i64.wrap (a1.At + 1))), (.int .i64 0), (.string ⟨#[]⟩), (.int .i64 0)]) (arr' := [(.int .i64 (IntKind.i64.wrap (a1.At + 1))), (.int .i64 0), (.string ⟨#[]⟩), (.int .i64 0)]) rfl sz29 hs28_6 rfl (onesOf (Ones.cons rfl (Ones.cons rfl (Ones.cons rfl (Ones.cons rfl Ones.nil))))) rfl rfl rfl) rfl ?_ ?_
 rintro _ _ _ - ⟨rfl, rfl⟩
 refine ⟨(StabL.st (StabA.of rfl (PO.buildL (cl := [(.int .u64 0), (.bool (decide ((rd a0 a1.At) = 1))), (.slice none 0 0), (.slice none 0 0)]) ze96 fp96 (Parts.cons (congrArg Value.cells (show ev _ _ = (.bool (decide ((rd a0 a1.At) = 1))) from rfl)) Parts.nil) rfl) rfl) (StabL.st (StabA.of rfl (PO.eql rfl rfl) rfl) (StabL.st (StabA.of rfl (PO.loadM pl5 rfl (IM.has0 hhas99)) rfl) (StabL.st (StabA.of rfl (PO.indexAddr (n := a0.length) Tryz.underlying22 sz5 rfl rfl hg94.1 hg94.2 hat97) rfl) (StabL.st (StabA.of rfl (PO.loadB 3 pl3 rfl rfl rfl) rfl) (StabL.st (StabA.of rfl (PO.fieldAddr fo29_0 hs28_4 rfl) rfl) (StabL.st (StabA.of rfl (PO.move hs28_0) rfl) (StabL.anc rfl (StabL.anc rfl (StabL.anc rfl (StabL.anc rfl trivial))))))))))), ?_⟩
 refine WT.f1 ?_
 refine WT.alt rfl (EO.storeL (v := (.agg #[(.int .u64 0), (.bool (decide ((rd a0 a1.At) = 1))), (.slice none 0 0), (.slice none 0 0)])) (vl := [(.int .u64 0), (.bool (decide ((rd a0 a1.At) = 1))), (.slice none 0 0), (.slice none 0 0)]) (arr' := [(.int .u64 0), (.bool (decide ((rd a0 a1.At) = 1))), (.slice none 0 0), (.slice none 0 0)]) rfl sz96 hs28_7 rfl (onesOf (Ones.cons rfl (Ones.cons rfl (Ones.cons rfl (Ones.cons rfl Ones.nil))))) rfl rfl rfl) rfl ?_ ?_
 rintro _ _ _ - ⟨rfl, rfl⟩
 refine ⟨(StabL.anc rfl (StabL.anc rfl (StabL.anc rfl (StabL.anc rfl (StabL.anc rfl (StabL.anc rfl (StabL.anc rfl (StabL.anc rfl (StabL.anc rfl (StabL.anc rfl (StabL.anc rfl trivial))))))))))), ?_⟩
 refine WT.fin ?_
 refine WQ.thenC ?_
 refine WC.ret ?_
 refine WQ.blockR ?_
 refine WQ.thenR ?_
 refine WQ.e0 ?_
 refine WQ.f3 ?_
 refine WQ.drop ?_
 refine WQ.f3 ?_
 refine WQ.drop ?_
 refine WQ.f1 ?_
 refine WQ.f2 ?_
 exact WQ.returnsD h [[]] (fun _ hs => hs.drop.drop) (resultsLN rfl (RVs.cons (RV.cellA (cs := [(.int .i64 (IntKind.i64.wrap (a1.At + 1))), (.int .i64 0), (.string ⟨#[]⟩), (.int .i64 0)]) 0 ag29 sz29 hs28_6 rfl rfl) (RVs.cons (RV.cellA (cs := [(.int .u64 0), (.bool (decide ((rd a0 a1.At) = 1))), (.slice none 0 0), (.slice none 0 0)]) 1 ag96 sz96 hs28_7 rfl rfl) RVs.nil))) hle28 ⟨(.slice none 0 0), (.slice none 0 0), [], rfl, rfl, RS.nil _ _, (OwnS.nil _ _)⟩
 exact WT.no
 exact WT.no
 have h := ite_f hb72 h
 refine Sr ?_
 refine Pu (.bool (decide (a2.Kind = 3))) (PO.eql hs28_20 rfl) rfl ?_
 refine Pa (.bool (decide (a2.Kind = 3))) rfl rfl ?_
 refine Nt ?_
 refine WC.cond (b := decide (a2.Kind = 3)) rfl (fun hb102 => ?_) (fun hb102 => ?_)
 have h := ite_t hb102 h
 refine Sr ?_
 refine Pm v0 hs28_0 rfl ?_
 refine Pu (a29_ a1) (PO.loadBA (cs := (l29 a1)) 3 ag29 sz29 hs28_4 rfl rfl) rfl ?_
 refine Pu (pt g22 1) (PO.fieldAddr fo100_1 hs28_5 rfl) rfl ?_
 refine Pu (.int .i64 a2.Most) (PO.loadB 2 pl3 rfl rfl rfl) rfl ?_
 obtain ⟨⟨r103, r104⟩, hr105, h⟩ := bnd h
 refine WL.eff (EO.call0 co83 (f_ref02_text_ok a0 a1 a2.Most _ _ h0 (r103, r104) hr105) (args3 rfl rfl rfl)) rfl ?_
 rintro _ M106 _ hle107 ⟨_, ⟨vq109, rfl, rfl, hq109⟩, rfl⟩
 have h0 := h0.mono hle107
 refine WL.a0 ?_
 refine Pm (.tuple #[(a29_ r103), vq109]) rfl rfl ?_
 refine Pu (a29_ r103) (PO.extract rfl rfl) rfl ?_
 refine Pu vq109 (PO.extract rfl rfl) rfl ?_
 refine WL.eff (EO.alloc ze29 rfl) rfl ?_
 rintro _ _ _ - ⟨rfl, g110, rfl, rfl⟩
 refine WL.eff (EO.storeL (v := (a29_ r103)) (vl := (l29 r103)) (arr' := (l29 r103)) rfl sz29 rfl rfl (onesOf (Ones.cons rfl (Ones.cons rfl (Ones.cons rfl (Ones.cons rfl Ones.nil))))) rfl rfl rfl) rfl ?_
 rintro _ _ _ - ⟨rfl, rfl⟩
 refine Pa vq109 rfl rfl ?_
 refine Ns ?_
 refine Pu (a29_ r103) (PO.loadBA (cs := (l29 r103)) 0 ag29 sz29 rfl rfl rfl) rfl ?_
 refine Pm vq109 rfl rfl ?_
 refine Pu (.agg #[(.int .u64 0), (.bool false), vq109, (.slice none 0 0)]) (PO.buildL (cl := [(.int .u64 0), (.bool false), vq109, (.slice none 0 0)]) ze96 fp96 (Parts.cons ((congrArg Value.cells (show ev _ _ = vq109 from rfl)).trans hq109.cells) Parts.nil) rfl) rfl ?_
 refine WL.f2 ?_
 refine WL.eff (EO.storeL (v := (a29_ r103)) (vl := (l29 r103)) (arr' := (l29 r103)) rfl sz29 hs28_6 rfl (onesOf (Ones.cons rfl (Ones.cons rfl (Ones.cons rfl (Ones.cons rfl Ones.nil))))) rfl rfl rfl) rfl ?_
 rintro _ _ _ - ⟨rfl, rfl⟩
 refine WL.f2 ?_
 refine WL.eff (EO.storeL (v := (.agg #[(.int .u64 0), (.bool false), vq109, (.slice none 0 0)])) (vl := [(.int .u64 0), (.bool false), vq109, (.slice none 0 0)]) (arr' := [(.int .u64 0), (.bool false), vq109, (.slice none 0 0)]) rfl sz96 hs28_7 rfl (onesOf (Ones.cons rfl (Ones.cons rfl (Ones.cons (RS.one hq109) (Ones.cons rfl Ones.nil))))) rfl rfl rfl) rfl ?_
 rintro _ _ _ - ⟨rfl, rfl⟩
 refine Nt ?_
 refine WC.ret ?_
 refine WQ.blockR ?_
 refine WQ.thenR ?_
 refine WQ.e0 ?_
 refine WQ.f3 ?_
 refine WQ.drop ?_
 refine WQ.f3 ?_
 refine WQ.drop ?_
 refine WQ.f3 ?_
 refine WQ.drop ?_
 refine WQ.f1 ?_
 refine WQ.f2 ?_
 exact WQ.returnsD h [[]] (fun _ hs => hs.drop.drop) (resultsLN rfl (RVs.cons (RV.cellA (cs := (l29 r103)) 0 ag29 sz29 hs28_6 rfl rfl) (RVs.cons (RV.cellA (cs := [(.int .u64 0), (.bool false), vq109, (.slice none 0 0)]) 1 ag96 sz96 hs28_7 rfl rfl) RVs.nil))) (hle28.trans hle107) ⟨vq109, (.slice none 0 0), [], rfl, rfl, hq109, (OwnS.nil _ _)⟩
 have h := ite_f hb102 h
 refine WC.skip ?_
 refine WQ.blockN ?_
 refine WQ.thenC ?_
 refine Sr ?_
 refine Pm v0 hs28_0 rfl ?_
 refine Pu (a29_ a1) (PO.loadBA (cs := (l29 a1)) 3 ag29 sz29 hs28_4 rfl rfl) rfl ?_
 refine Pu (pt g22 1) (PO.fieldAddr fo100_1 hs28_5 rfl) rfl ?_
 refine Pu (.int .i64 a2.Most) (PO.loadB 2 pl3 rfl rfl rfl) rfl ?_
 refine Pu (pt g22 2) (PO.fieldAddr fo100_2 hs28_5 rfl) rfl ?_
 refine Pu (.int .i64 a2.Each) (PO.loadB 2 pl3 rfl rfl rfl) rfl ?_
 obtain ⟨⟨r112, r113⟩, hr114, h⟩ := bnd h
 refine WL.eff (EO.call0 co84 (f_ref02_row_ok a0 a1 a2.Most a2.Each _ _ h0 (r112, r113) hr114) (args4 rfl rfl rfl rfl)) rfl ?_
 rintro _ M115 _ hle116 ⟨_, ⟨vq118, cq118, rfl, rfl, hq118⟩, rfl⟩
 have h0 := h0.mono hle116
 refine WL.a1 ?_
 refine Pm (.tuple #[(a29_ r112), vq118]) rfl rfl ?_
 refine Pu (a29_ r112) (PO.extract rfl rfl) rfl ?_
 refine Pu vq118 (PO.extract rfl rfl) rfl ?_
 refine WL.eff (EO.alloc ze29 rfl) rfl ?_
 rintro _ _ _ - ⟨rfl, g119, rfl, rfl⟩
 refine WL.eff (EO.storeL (v := (a29_ r112)) (vl := (l29 r112)) (arr' := (l29 r112)) rfl sz29 rfl rfl (onesOf (Ones.cons rfl (Ones.cons rfl (Ones.cons rfl (Ones.cons rfl Ones.nil))))) rfl rfl rfl) rfl ?_
 rintro _ _ _ - ⟨rfl, rfl⟩
 refine Pa vq118 rfl rfl ?_
 refine Ns ?_
 refine Pu (a29_ r112) (PO.loadBA (cs := (l29 r112)) 0 ag29 sz29 rfl rfl rfl) rfl ?_
 refine Pm vq118 rfl rfl ?_
 refine Pu (.agg #[(.int .u64 0), (.bool false), (.slice none 0 0), vq118]) (PO.buildL (cl := [(.int .u64 0), (.bool false), (.slice none 0 0), vq118]) ze96 fp96 (Parts.cons ((congrArg Value.cells (show ev _ _ = vq118 from rfl)).trans hq118.cells) Parts.nil) rfl) rfl ?_
 refine WL.f3 ?_
 refine WL.eff (EO.storeL (v := (a29_ r112)) (vl := (l29 r112)) (arr' := (l29 r112)) rfl sz29 hs28_6 rfl (onesOf (Ones.cons rfl (Ones.cons rfl (Ones.cons rfl (Ones.cons rfl Ones.nil))))) rfl rfl rfl) rfl ?_
 rintro _ _ _ - ⟨rfl, rfl⟩
 refine WL.f3 ?_
 refine WL.eff (EO.storeL (v := (.agg #[(.int .u64 0), (.bool false), (.slice none 0 0), vq118])) (vl := [(.int .u64 0), (.bool false), (.slice none 0 0), vq118]) (arr' := [(.int .u64 0), (.bool false), (.slice none 0 0), vq118]) rfl sz96 hs28_7 rfl (onesOf (Ones.cons rfl (Ones.cons rfl (Ones.cons rfl (Ones.cons (OwnS.one hq118) Ones.nil))))) rfl rfl rfl) rfl ?_
 rintro _ _ _ - ⟨rfl, rfl⟩
 refine Nt ?_
 refine WC.ret ?_
 refine WQ.f2 ?_
 refine WQ.drop ?_
 refine WQ.f3 ?_
 refine WQ.drop ?_
 refine WQ.f3 ?_
 refine WQ.drop ?_
 refine WQ.f2 ?_
 refine WQ.f1 ?_
 refine WQ.f2 ?_
 exact WQ.returnsD h [cq118] (fun _ hs => hs.drop.drop) (resultsLN rfl (RVs.cons (RV.cellA (cs := (l29 r112)) 0 ag29 sz29 hs28_6 rfl rfl) (RVs.cons (RV.cellA (cs := [(.int .u64 0), (.bool false), (.slice none 0 0), vq118]) 1 ag96 sz96 hs28_7 rfl rfl) RVs.nil))) (hle28.trans hle116) ⟨(.slice none 0 0), vq118, cq118, rfl, rfl, RS.nil _ _, hq118⟩


end Go.Proofs.YtafkdjljkolehaaGreatDoor.G
