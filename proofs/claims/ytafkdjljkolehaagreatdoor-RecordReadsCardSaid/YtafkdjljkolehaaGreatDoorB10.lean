/- Go functions: what they come to, and that they do. Printed by a program of the session (gen). -/
import Derived.Test.YtafkdjljkolehaaGreatDoorBF
import Derived.Test.YtafkdjljkolehaaGreatDoorB9
import Derived.Test.YtafkdjljkolehaaGreatDoorKConv
set_option linter.unusedVariables false
set_option linter.unusedSimpArgs false
set_option maxHeartbeats 8000000
set_option maxRecDepth 100000
namespace Go.Proofs.YtafkdjljkolehaaGreatDoor.G
open Go Go.KK

noncomputable def f_ref05_Cursor_Int (a0 : T_ref05_Cursor) (a1 : Int) : Option (Int × Int × Int × ByteArray × Int) :=
  ((((f_ref02_Read a0.B a0.S (⟨(1 : Int), a1, (0 : Int)⟩ : T_ref02_Ask)).bind fun (r30, r31) => (some (r30, r31.Num, r31.Flag, r31.Text, r31.Row))) : Option (T_ref02_State × Int × Bool × (List Int) × (List Int))).bind fun (x22, x24, x25, x26, x27) => (some (IntKind.i64.wrap x24, x22.At, x22.Code, x22.Op, x22.Where)))
def f_ref05_Cursor_Int_post (a0 : T_ref05_Cursor) (a1 : Int) (v0_0 : Value) (g0 : Nat) : (Int × Int × Int × ByteArray × Int) → Value → IM → HL → Prop :=
  fun (p_ : (Int × Int × Int × ByteArray × Int)) (v : Value) (M' : IM) (H' : HL) => match p_ with | (r0, r1, r2, r3, r4) => (.int .i64 r0) = v ∧ H' = [[(g0, .cells #[v0_0, (.int .i64 r1), (.int .i64 r2), (.string r3), (.int .i64 r4)] 31 (0, 0))]]
theorem f_ref05_Cursor_Int_ok (a0 : T_ref05_Cursor) (a1 : Int) (M : IM) (v0_0 : Value) (g0 : Nat) (h0_0 : RS (Kd.int .u8) M v0_0 a0.B) (res : (Int × Int × Int × ByteArray × Int)) (h : f_ref05_Cursor_Int a0 a1 = some res) :
    Tri Tryz.prog 31 #[(pt g0 0), (.int .i64 a1)] M [[(g0, .cells (l31 a0 v0_0).toArray 31 (0, 0))]] (f_ref05_Cursor_Int_post a0 a1 v0_0 g0 res) := by
 unfold f_ref05_Cursor_Int at h
 refine Tri.enter (fn := Tryz.f31) Tryz.func31 rfl (Nat.le_of_ble_eq_true rfl) ?_
 intro F ρ hρ
 refine Sr ?_
 refine Pa (.int .i64 0) rfl rfl ?_
 refine Nt ?_
 obtain ⟨j28, hj28, h⟩ := bnd h
 refine WC.joinF (fun (p_ : (T_ref02_State × Int × Bool × (List Int) × (List Int))) ρ' M' H' => match p_ with | (x22, x24, x25, x26, x27) => ∃ g21 g23 vx26 vx27 cx27, M.le M' ∧ [(g0, .cells (l31 a0 v0_0).toArray 31 (0, 0))] :: [(g21, .cells (l29 x22).toArray 29 (0, 0))] :: [(g23, .cells #[(.int .u64 x24), (.bool x25), vx26, vx27] 96 (0, 0))] :: cx27 :: F = H' ∧ ρ' 0 = (pt g0 0) ∧ ρ' 5 = (pt g21 0) ∧ ρ' 6 = (pt g23 0) ∧ RS (Kd.int .u8) M' vx26 x26 ∧ OwnS (Kd.int .i64) M' vx27 x27 cx27) j28 ?_ ?_
 have h328 := h
 have h := hj28
 refine WC.draw [0, 1, 3, 7, 0, 16, 48, 112, 0, 256, 1023, 2047, 4095, 4095, 0, 0, 57343, 131071] (.pure 0 (.pure 1 (.pure 2 (.pure 3 (.pure 4 (.pure 5 (.pure 6 (.pure 7 (.pure 8 (.pure 9 (.alt 10 (.pure 11 (.pure 12 (.pure 13 (.alt 14 (.alt 15 (.alt 16 (.alt 17 .done .none) .none) .none) (.alt 15 (.alt 14 (.alt 16 (.alt 17 .done .none) .none) .none) .none))))) (.alt 14 (.alt 10 (.pure 11 (.pure 12 (.pure 13 (.alt 15 (.alt 16 (.alt 17 .done .none) .none) .none)))) (.alt 15 (.alt 10 (.pure 11 (.pure 12 (.pure 13 (.alt 16 (.alt 17 .done .none) .none)))) .none) .none)) (.alt 15 (.alt 10 (.pure 11 (.pure 12 (.pure 13 (.alt 14 (.alt 16 (.alt 17 .done .none) .none) .none)))) (.alt 14 (.alt 10 (.pure 11 (.pure 12 (.pure 13 (.alt 16 (.alt 17 .done .none) .none)))) .none) .none)) .none))))))))))))) mixed (by kernel_rfl) ?_
 refine Tp (pt g0 0) rfl (PO.move (hρ 0)) rfl ?_
 refine Tp (pt g0 0) rfl (PO.nilCheck rfl) rfl ?_
 refine Tp (pt g0 0) rfl (PO.fieldAddr fo31_0 rfl rfl) rfl ?_
 refine Tp v0_0 rfl (PO.loadB 0 pl22 rfl rfl rfl) rfl ?_
 refine Tp (pt g0 0) rfl (PO.move (hρ 0)) rfl ?_
 refine Tp (pt g0 0) rfl (PO.nilCheck rfl) rfl ?_
 refine Tp (pt g0 1) rfl (PO.fieldAddr fo31_1 rfl rfl) rfl ?_
 refine Tp (a29_ a0.S) rfl (PO.loadBA (cs := (l29 a0.S)) 0 ag29 sz29 rfl rfl rfl) rfl ?_
 refine Tp (.int .i64 a1) rfl (PO.move (hρ 1)) rfl ?_
 refine Tp (.agg #[(.int .i64 1), (.int .i64 a1), (.int .i64 0)]) rfl (PO.buildL (cl := [(.int .i64 1), (.int .i64 a1), (.int .i64 0)]) ze100 fp100 (Parts.cons (congrArg Value.cells (show ev _ _ = (.int .i64 1) from rfl)) (Parts.cons (congrArg Value.cells (show ev _ _ = (.int .i64 a1) from rfl)) Parts.nil)) rfl) rfl ?_
 have hk29 := h
 obtain ⟨⟨r30, r31⟩, hr32, h⟩ := bnd h
 refine WT.alt rfl (EO.call0 co64 (f_ref02_Read_ok a0.B a0.S (⟨(1 : Int), a1, (0 : Int)⟩ : T_ref02_Ask) _ _ h0_0 (r30, r31) hr32) (args3 rfl rfl rfl)) rfl ?_ ?_
 rintro _ M33 _ hle34 ⟨_, ⟨vq36_2, vq36_3, cq36_3, rfl, rfl, hq36_2, hq36_3⟩, rfl⟩
 have h0_0 := h0_0.mono hle34
 refine ⟨(StabL.anc rfl (StabL.anc rfl (StabL.anc rfl (StabL.anc rfl (StabL.anc rfl (StabL.anc rfl (StabL.anc rfl (StabL.anc rfl (StabL.anc rfl (StabL.anc rfl trivial)))))))))), ?_⟩
 refine WT.a1 ?_
 refine Tp (.tuple #[(a29_ r30), (a96_ r31 vq36_2 vq36_3)]) rfl (PO.move rfl) rfl ?_
 refine Tp (a29_ r30) rfl (PO.extract rfl rfl) rfl ?_
 refine Tp (a96_ r31 vq36_2 vq36_3) rfl (PO.extract rfl rfl) rfl ?_
 have hk37 := h
 refine WT.alt rfl (EO.alloc ze29 rfl) rfl ?_ ?_
 rintro _ _ _ - ⟨rfl, g38, rfl, rfl⟩
 refine ⟨(StabL.st (StabA.of rfl (PO.extract rfl rfl) rfl) (StabL.st (StabA.of rfl (PO.extract rfl rfl) rfl) (StabL.st (StabA.of rfl (PO.move rfl) rfl) (StabL.st (StabA.of rfl (PO.buildL (cl := [(.int .i64 1), (.int .i64 a1), (.int .i64 0)]) ze100 fp100 (Parts.cons (congrArg Value.cells (show ev _ _ = (.int .i64 1) from rfl)) (Parts.cons (congrArg Value.cells (show ev _ _ = (.int .i64 a1) from rfl)) Parts.nil)) rfl) rfl) (StabL.st (StabA.of rfl (PO.move (hρ 1)) rfl) (StabL.st (StabA.of rfl (PO.loadBA (cs := (l29 a0.S)) 2 ag29 sz29 rfl rfl rfl) rfl) (StabL.st (StabA.of rfl (PO.fieldAddr fo31_1 rfl rfl) rfl) (StabL.st (StabA.of rfl (PO.nilCheck rfl) rfl) (StabL.st (StabA.of rfl (PO.move (hρ 0)) rfl) (StabL.st (StabA.of rfl (PO.loadB 2 pl22 rfl rfl rfl) rfl) (StabL.st (StabA.of rfl (PO.fieldAddr fo31_0 rfl rfl) rfl) (StabL.st (StabA.of rfl (PO.nilCheck rfl) rfl) (StabL.st (StabA.of rfl (PO.move (hρ 0)) rfl) trivial))))))))))))), ?_⟩
 refine WT.alt rfl (EO.alloc ze96 rfl) rfl ?_ ?_
 rintro _ _ _ - ⟨rfl, g39, rfl, rfl⟩
 refine ⟨(StabL.st (StabA.of rfl (PO.extract rfl rfl) rfl) (StabL.st (StabA.of rfl (PO.extract rfl rfl) rfl) (StabL.st (StabA.of rfl (PO.move rfl) rfl) (StabL.st (StabA.of rfl (PO.buildL (cl := [(.int .i64 1), (.int .i64 a1), (.int .i64 0)]) ze100 fp100 (Parts.cons (congrArg Value.cells (show ev _ _ = (.int .i64 1) from rfl)) (Parts.cons (congrArg Value.cells (show ev _ _ = (.int .i64 a1) from rfl)) Parts.nil)) rfl) rfl) (StabL.st (StabA.of rfl (PO.move (hρ 1)) rfl) (StabL.st (StabA.of rfl (PO.loadBA (cs := (l29 a0.S)) 3 ag29 sz29 rfl rfl rfl) rfl) (StabL.st (StabA.of rfl (PO.fieldAddr fo31_1 rfl rfl) rfl) (StabL.st (StabA.of rfl (PO.nilCheck rfl) rfl) (StabL.st (StabA.of rfl (PO.move (hρ 0)) rfl) (StabL.st (StabA.of rfl (PO.loadB 3 pl22 rfl rfl rfl) rfl) (StabL.st (StabA.of rfl (PO.fieldAddr fo31_0 rfl rfl) rfl) (StabL.st (StabA.of rfl (PO.nilCheck rfl) rfl) (StabL.st (StabA.of rfl (PO.move (hρ 0)) rfl) trivial))))))))))))), ?_⟩
 refine WT.f1 ?_
 refine WT.alt rfl (EO.storeL (v := (a29_ r30)) (vl := (l29 r30)) (arr' := (l29 r30)) rfl sz29 rfl rfl (onesOf (Ones.cons rfl (Ones.cons rfl (Ones.cons rfl (Ones.cons rfl Ones.nil))))) rfl rfl rfl) rfl ?_ ?_
 rintro _ _ _ - ⟨rfl, rfl⟩
 refine ⟨(StabL.st (StabA.of rfl (PO.extract rfl rfl) rfl) (StabL.anc rfl (StabL.anc rfl (StabL.anc rfl (StabL.anc rfl (StabL.anc rfl (StabL.anc rfl (StabL.anc rfl (StabL.anc rfl (StabL.anc rfl (StabL.anc rfl (StabL.anc rfl (StabL.anc rfl trivial))))))))))))), ?_⟩
 refine WT.f1 ?_
 refine WT.alt rfl (EO.storeL (v := (a96_ r31 vq36_2 vq36_3)) (vl := (l96 r31 vq36_2 vq36_3)) (arr' := (l96 r31 vq36_2 vq36_3)) rfl sz96 rfl rfl (onesOf (Ones.cons rfl (Ones.cons rfl (Ones.cons (RS.one hq36_2) (Ones.cons (OwnS.one hq36_3) Ones.nil))))) rfl rfl rfl) rfl ?_ ?_
 rintro _ _ _ - ⟨rfl, rfl⟩
 refine ⟨(StabL.anc rfl (StabL.anc rfl (StabL.anc rfl (StabL.anc rfl (StabL.anc rfl (StabL.anc rfl (StabL.anc rfl (StabL.anc rfl (StabL.anc rfl (StabL.anc rfl (StabL.anc rfl (StabL.anc rfl (StabL.anc rfl trivial))))))))))))), ?_⟩
 refine WT.fin ?_
 refine WQ.f2 ?_
 refine WQ.f1 ?_
 refine WQ.f2 ?_
 refine WQ.f3 ?_
 obtain rfl := Option.some.inj h
 refine WQ.thenJ ?_
 exact ⟨g38, g39, vq36_2, vq36_3, cq36_3, hle34, rfl, (hρ 0), rfl, rfl, hq36_2, hq36_3⟩
 exact WT.no
 exact WT.no
 exact WT.no
 have h := hk37
 refine WT.alt rfl (EO.alloc ze96 rfl) rfl ?_ ?_
 rintro _ _ _ - ⟨rfl, g40, rfl, rfl⟩
 refine ⟨(StabL.st (StabA.of rfl (PO.extract rfl rfl) rfl) (StabL.st (StabA.of rfl (PO.extract rfl rfl) rfl) (StabL.st (StabA.of rfl (PO.move rfl) rfl) (StabL.st (StabA.of rfl (PO.buildL (cl := [(.int .i64 1), (.int .i64 a1), (.int .i64 0)]) ze100 fp100 (Parts.cons (congrArg Value.cells (show ev _ _ = (.int .i64 1) from rfl)) (Parts.cons (congrArg Value.cells (show ev _ _ = (.int .i64 a1) from rfl)) Parts.nil)) rfl) rfl) (StabL.st (StabA.of rfl (PO.move (hρ 1)) rfl) (StabL.st (StabA.of rfl (PO.loadBA (cs := (l29 a0.S)) 2 ag29 sz29 rfl rfl rfl) rfl) (StabL.st (StabA.of rfl (PO.fieldAddr fo31_1 rfl rfl) rfl) (StabL.st (StabA.of rfl (PO.nilCheck rfl) rfl) (StabL.st (StabA.of rfl (PO.move (hρ 0)) rfl) (StabL.st (StabA.of rfl (PO.loadB 2 pl22 rfl rfl rfl) rfl) (StabL.st (StabA.of rfl (PO.fieldAddr fo31_0 rfl rfl) rfl) (StabL.st (StabA.of rfl (PO.nilCheck rfl) rfl) (StabL.st (StabA.of rfl (PO.move (hρ 0)) rfl) trivial))))))))))))), ?_⟩
 refine WT.alt rfl (EO.alloc ze29 rfl) rfl ?_ ?_
 rintro _ _ _ - ⟨rfl, g41, rfl, rfl⟩
 refine ⟨(StabL.st (StabA.of rfl (PO.extract rfl rfl) rfl) (StabL.st (StabA.of rfl (PO.extract rfl rfl) rfl) (StabL.st (StabA.of rfl (PO.move rfl) rfl) (StabL.st (StabA.of rfl (PO.buildL (cl := [(.int .i64 1), (.int .i64 a1), (.int .i64 0)]) ze100 fp100 (Parts.cons (congrArg Value.cells (show ev _ _ = (.int .i64 1) from rfl)) (Parts.cons (congrArg Value.cells (show ev _ _ = (.int .i64 a1) from rfl)) Parts.nil)) rfl) rfl) (StabL.st (StabA.of rfl (PO.move (hρ 1)) rfl) (StabL.st (StabA.of rfl (PO.loadBA (cs := (l29 a0.S)) 3 ag29 sz29 rfl rfl rfl) rfl) (StabL.st (StabA.of rfl (PO.fieldAddr fo31_1 rfl rfl) rfl) (StabL.st (StabA.of rfl (PO.nilCheck rfl) rfl) (StabL.st (StabA.of rfl (PO.move (hρ 0)) rfl) (StabL.st (StabA.of rfl (PO.loadB 3 pl22 rfl rfl rfl) rfl) (StabL.st (StabA.of rfl (PO.fieldAddr fo31_0 rfl rfl) rfl) (StabL.st (StabA.of rfl (PO.nilCheck rfl) rfl) (StabL.st (StabA.of rfl (PO.move (hρ 0)) rfl) trivial))))))))))))), ?_⟩
 refine WT.alt rfl (EO.storeL (v := (a29_ r30)) (vl := (l29 r30)) (arr' := (l29 r30)) rfl sz29 rfl rfl (onesOf (Ones.cons rfl (Ones.cons rfl (Ones.cons rfl (Ones.cons rfl Ones.nil))))) rfl rfl rfl) rfl ?_ ?_
 rintro _ _ _ - ⟨rfl, rfl⟩
 refine ⟨(StabL.st (StabA.of rfl (PO.extract rfl rfl) rfl) (StabL.anc rfl (StabL.anc rfl (StabL.anc rfl (StabL.anc rfl (StabL.anc rfl (StabL.anc rfl (StabL.anc rfl (StabL.anc rfl (StabL.anc rfl (StabL.anc rfl (StabL.anc rfl (StabL.anc rfl trivial))))))))))))), ?_⟩
 refine WT.f1 ?_
 refine WT.alt rfl (EO.storeL (v := (a96_ r31 vq36_2 vq36_3)) (vl := (l96 r31 vq36_2 vq36_3)) (arr' := (l96 r31 vq36_2 vq36_3)) rfl sz96 rfl rfl (onesOf (Ones.cons rfl (Ones.cons rfl (Ones.cons (RS.one hq36_2) (Ones.cons (OwnS.one hq36_3) Ones.nil))))) rfl rfl rfl) rfl ?_ ?_
 rintro _ _ _ - ⟨rfl, rfl⟩
 refine ⟨(StabL.anc rfl (StabL.anc rfl (StabL.anc rfl (StabL.anc rfl (StabL.anc rfl (StabL.anc rfl (StabL.anc rfl (StabL.anc rfl (StabL.anc rfl (StabL.anc rfl (StabL.anc rfl (StabL.anc rfl (StabL.anc rfl trivial))))))))))))), ?_⟩
 refine WT.fin ?_
 refine WQ.f2 ?_
 refine WQ.f1 ?_
 refine WQ.f2 ?_
 refine WQ.f3 ?_
 obtain rfl := Option.some.inj h
 refine WQ.thenJ ?_
 exact ⟨g41, g40, vq36_2, vq36_3, cq36_3, hle34, rfl, (hρ 0), rfl, rfl, hq36_2, hq36_3⟩
 exact WT.no
 exact WT.no
 exact WT.no
 exact WT.no
 have h := hk29
 have hk42 := h
 refine WT.alt rfl (EO.alloc ze29 rfl) rfl ?_ ?_
 rintro _ _ _ - ⟨rfl, g43, rfl, rfl⟩
 refine ⟨(StabL.st (StabA.of rfl (PO.buildL (cl := [(.int .i64 1), (.int .i64 a1), (.int .i64 0)]) ze100 fp100 (Parts.cons (congrArg Value.cells (show ev _ _ = (.int .i64 1) from rfl)) (Parts.cons (congrArg Value.cells (show ev _ _ = (.int .i64 a1) from rfl)) Parts.nil)) rfl) rfl) (StabL.st (StabA.of rfl (PO.move (hρ 1)) rfl) (StabL.st (StabA.of rfl (PO.loadBA (cs := (l29 a0.S)) 1 ag29 sz29 rfl rfl rfl) rfl) (StabL.st (StabA.of rfl (PO.fieldAddr fo31_1 rfl rfl) rfl) (StabL.st (StabA.of rfl (PO.nilCheck rfl) rfl) (StabL.st (StabA.of rfl (PO.move (hρ 0)) rfl) (StabL.st (StabA.of rfl (PO.loadB 1 pl22 rfl rfl rfl) rfl) (StabL.st (StabA.of rfl (PO.fieldAddr fo31_0 rfl rfl) rfl) (StabL.st (StabA.of rfl (PO.nilCheck rfl) rfl) (StabL.st (StabA.of rfl (PO.move (hρ 0)) rfl) trivial)))))))))), ?_⟩
 have hk44 := h
 obtain ⟨⟨r45, r46⟩, hr47, h⟩ := bnd h
 refine WT.alt rfl (EO.call0 co64 (f_ref02_Read_ok a0.B a0.S (⟨(1 : Int), a1, (0 : Int)⟩ : T_ref02_Ask) _ _ h0_0 (r45, r46) hr47) (args3 rfl rfl rfl)) rfl ?_ ?_
 rintro _ M48 _ hle49 ⟨_, ⟨vq51_2, vq51_3, cq51_3, rfl, rfl, hq51_2, hq51_3⟩, rfl⟩
 have h0_0 := h0_0.mono hle49
 refine ⟨(StabL.anc rfl (StabL.anc rfl (StabL.anc rfl (StabL.anc rfl (StabL.anc rfl (StabL.anc rfl (StabL.anc rfl (StabL.anc rfl (StabL.anc rfl (StabL.anc rfl trivial)))))))))), ?_⟩
 refine WT.a1 ?_
 refine Tp (.tuple #[(a29_ r45), (a96_ r46 vq51_2 vq51_3)]) rfl (PO.move rfl) rfl ?_
 refine Tp (a29_ r45) rfl (PO.extract rfl rfl) rfl ?_
 refine Tp (a96_ r46 vq51_2 vq51_3) rfl (PO.extract rfl rfl) rfl ?_
 refine WT.alt rfl (EO.alloc ze96 rfl) rfl ?_ ?_
 rintro _ _ _ - ⟨rfl, g52, rfl, rfl⟩
 refine ⟨(StabL.st (StabA.of rfl (PO.extract rfl rfl) rfl) (StabL.st (StabA.of rfl (PO.extract rfl rfl) rfl) (StabL.st (StabA.of rfl (PO.move rfl) rfl) (StabL.st (StabA.of rfl (PO.buildL (cl := [(.int .i64 1), (.int .i64 a1), (.int .i64 0)]) ze100 fp100 (Parts.cons (congrArg Value.cells (show ev _ _ = (.int .i64 1) from rfl)) (Parts.cons (congrArg Value.cells (show ev _ _ = (.int .i64 a1) from rfl)) Parts.nil)) rfl) rfl) (StabL.st (StabA.of rfl (PO.move (hρ 1)) rfl) (StabL.st (StabA.of rfl (PO.loadBA (cs := (l29 a0.S)) 3 ag29 sz29 rfl rfl rfl) rfl) (StabL.st (StabA.of rfl (PO.fieldAddr fo31_1 rfl rfl) rfl) (StabL.st (StabA.of rfl (PO.nilCheck rfl) rfl) (StabL.st (StabA.of rfl (PO.move (hρ 0)) rfl) (StabL.st (StabA.of rfl (PO.loadB 3 pl22 rfl rfl rfl) rfl) (StabL.st (StabA.of rfl (PO.fieldAddr fo31_0 rfl rfl) rfl) (StabL.st (StabA.of rfl (PO.nilCheck rfl) rfl) (StabL.st (StabA.of rfl (PO.move (hρ 0)) rfl) trivial))))))))))))), ?_⟩
 refine WT.f2 ?_
 refine WT.alt rfl (EO.storeL (v := (a29_ r45)) (vl := (l29 r45)) (arr' := (l29 r45)) rfl sz29 rfl rfl (onesOf (Ones.cons rfl (Ones.cons rfl (Ones.cons rfl (Ones.cons rfl Ones.nil))))) rfl rfl rfl) rfl ?_ ?_
 rintro _ _ _ - ⟨rfl, rfl⟩
 refine ⟨(StabL.st (StabA.of rfl (PO.extract rfl rfl) rfl) (StabL.anc rfl (StabL.anc rfl (StabL.anc rfl (StabL.anc rfl (StabL.anc rfl (StabL.anc rfl (StabL.anc rfl (StabL.anc rfl (StabL.anc rfl (StabL.anc rfl (StabL.anc rfl (StabL.anc rfl trivial))))))))))))), ?_⟩
 refine WT.f1 ?_
 refine WT.alt rfl (EO.storeL (v := (a96_ r46 vq51_2 vq51_3)) (vl := (l96 r46 vq51_2 vq51_3)) (arr' := (l96 r46 vq51_2 vq51_3)) rfl sz96 rfl rfl (onesOf (Ones.cons rfl (Ones.cons rfl (Ones.cons (RS.one hq51_2) (Ones.cons (OwnS.one hq51_3) Ones.nil))))) rfl rfl rfl) rfl ?_ ?_
 rintro _ _ _ - ⟨rfl, rfl⟩
 refine ⟨(StabL.anc rfl (StabL.anc rfl (StabL.anc rfl (StabL.anc rfl (StabL.anc rfl (StabL.anc rfl (StabL.anc rfl (StabL.anc rfl (StabL.anc rfl (StabL.anc rfl (StabL.anc rfl (StabL.anc rfl (StabL.anc rfl trivial))))))))))))), ?_⟩
 refine WT.fin ?_
 refine WQ.f2 ?_
 refine WQ.f1 ?_
 refine WQ.f2 ?_
 refine WQ.f3 ?_
 obtain rfl := Option.some.inj h
 refine WQ.thenJ ?_
 exact ⟨g43, g52, vq51_2, vq51_3, cq51_3, hle49, rfl, (hρ 0), rfl, rfl, hq51_2, hq51_3⟩
 exact WT.no
 exact WT.no
 exact WT.no
 have h := hk44
 refine WT.alt rfl (EO.alloc ze96 rfl) rfl ?_ ?_
 rintro _ _ _ - ⟨rfl, g53, rfl, rfl⟩
 refine ⟨(StabL.st (StabA.of rfl (PO.buildL (cl := [(.int .i64 1), (.int .i64 a1), (.int .i64 0)]) ze100 fp100 (Parts.cons (congrArg Value.cells (show ev _ _ = (.int .i64 1) from rfl)) (Parts.cons (congrArg Value.cells (show ev _ _ = (.int .i64 a1) from rfl)) Parts.nil)) rfl) rfl) (StabL.st (StabA.of rfl (PO.move (hρ 1)) rfl) (StabL.st (StabA.of rfl (PO.loadBA (cs := (l29 a0.S)) 2 ag29 sz29 rfl rfl rfl) rfl) (StabL.st (StabA.of rfl (PO.fieldAddr fo31_1 rfl rfl) rfl) (StabL.st (StabA.of rfl (PO.nilCheck rfl) rfl) (StabL.st (StabA.of rfl (PO.move (hρ 0)) rfl) (StabL.st (StabA.of rfl (PO.loadB 2 pl22 rfl rfl rfl) rfl) (StabL.st (StabA.of rfl (PO.fieldAddr fo31_0 rfl rfl) rfl) (StabL.st (StabA.of rfl (PO.nilCheck rfl) rfl) (StabL.st (StabA.of rfl (PO.move (hρ 0)) rfl) trivial)))))))))), ?_⟩
 obtain ⟨⟨r54, r55⟩, hr56, h⟩ := bnd h
 refine WT.alt rfl (EO.call0 co64 (f_ref02_Read_ok a0.B a0.S (⟨(1 : Int), a1, (0 : Int)⟩ : T_ref02_Ask) _ _ h0_0 (r54, r55) hr56) (args3 rfl rfl rfl)) rfl ?_ ?_
 rintro _ M57 _ hle58 ⟨_, ⟨vq60_2, vq60_3, cq60_3, rfl, rfl, hq60_2, hq60_3⟩, rfl⟩
 have h0_0 := h0_0.mono hle58
 refine ⟨(StabL.anc rfl (StabL.anc rfl (StabL.anc rfl (StabL.anc rfl (StabL.anc rfl (StabL.anc rfl (StabL.anc rfl (StabL.anc rfl (StabL.anc rfl (StabL.anc rfl trivial)))))))))), ?_⟩
 refine WT.a1 ?_
 refine Tp (.tuple #[(a29_ r54), (a96_ r55 vq60_2 vq60_3)]) rfl (PO.move rfl) rfl ?_
 refine Tp (a29_ r54) rfl (PO.extract rfl rfl) rfl ?_
 refine Tp (a96_ r55 vq60_2 vq60_3) rfl (PO.extract rfl rfl) rfl ?_
 refine WT.f2 ?_
 refine WT.alt rfl (EO.storeL (v := (a29_ r54)) (vl := (l29 r54)) (arr' := (l29 r54)) rfl sz29 rfl rfl (onesOf (Ones.cons rfl (Ones.cons rfl (Ones.cons rfl (Ones.cons rfl Ones.nil))))) rfl rfl rfl) rfl ?_ ?_
 rintro _ _ _ - ⟨rfl, rfl⟩
 refine ⟨(StabL.st (StabA.of rfl (PO.extract rfl rfl) rfl) (StabL.anc rfl (StabL.anc rfl (StabL.anc rfl (StabL.anc rfl (StabL.anc rfl (StabL.anc rfl (StabL.anc rfl (StabL.anc rfl (StabL.anc rfl (StabL.anc rfl (StabL.anc rfl (StabL.anc rfl trivial))))))))))))), ?_⟩
 refine WT.f2 ?_
 refine WT.alt rfl (EO.storeL (v := (a96_ r55 vq60_2 vq60_3)) (vl := (l96 r55 vq60_2 vq60_3)) (arr' := (l96 r55 vq60_2 vq60_3)) rfl sz96 rfl rfl (onesOf (Ones.cons rfl (Ones.cons rfl (Ones.cons (RS.one hq60_2) (Ones.cons (OwnS.one hq60_3) Ones.nil))))) rfl rfl rfl) rfl ?_ ?_
 rintro _ _ _ - ⟨rfl, rfl⟩
 refine ⟨(StabL.anc rfl (StabL.anc rfl (StabL.anc rfl (StabL.anc rfl (StabL.anc rfl (StabL.anc rfl (StabL.anc rfl (StabL.anc rfl (StabL.anc rfl (StabL.anc rfl (StabL.anc rfl (StabL.anc rfl (StabL.anc rfl trivial))))))))))))), ?_⟩
 refine WT.fin ?_
 refine WQ.f2 ?_
 refine WQ.f1 ?_
 refine WQ.f2 ?_
 refine WQ.f3 ?_
 obtain rfl := Option.some.inj h
 refine WQ.thenJ ?_
 exact ⟨g43, g53, vq60_2, vq60_3, cq60_3, hle58, rfl, (hρ 0), rfl, rfl, hq60_2, hq60_3⟩
 exact WT.no
 exact WT.no
 exact WT.no
 exact WT.no
 have h := hk42
 refine WT.alt rfl (EO.alloc ze96 rfl) rfl ?_ ?_
 rintro _ _ _ - ⟨rfl, g61, rfl, rfl⟩
 refine ⟨(StabL.st (StabA.of rfl (PO.buildL (cl := [(.int .i64 1), (.int .i64 a1), (.int .i64 0)]) ze100 fp100 (Parts.cons (congrArg Value.cells (show ev _ _ = (.int .i64 1) from rfl)) (Parts.cons (congrArg Value.cells (show ev _ _ = (.int .i64 a1) from rfl)) Parts.nil)) rfl) rfl) (StabL.st (StabA.of rfl (PO.move (hρ 1)) rfl) (StabL.st (StabA.of rfl (PO.loadBA (cs := (l29 a0.S)) 1 ag29 sz29 rfl rfl rfl) rfl) (StabL.st (StabA.of rfl (PO.fieldAddr fo31_1 rfl rfl) rfl) (StabL.st (StabA.of rfl (PO.nilCheck rfl) rfl) (StabL.st (StabA.of rfl (PO.move (hρ 0)) rfl) (StabL.st (StabA.of rfl (PO.loadB 1 pl22 rfl rfl rfl) rfl) (StabL.st (StabA.of rfl (PO.fieldAddr fo31_0 rfl rfl) rfl) (StabL.st (StabA.of rfl (PO.nilCheck rfl) rfl) (StabL.st (StabA.of rfl (PO.move (hρ 0)) rfl) trivial)))))))))), ?_⟩
 have hk62 := h
 obtain ⟨⟨r63, r64⟩, hr65, h⟩ := bnd h
 refine WT.alt rfl (EO.call0 co64 (f_ref02_Read_ok a0.B a0.S (⟨(1 : Int), a1, (0 : Int)⟩ : T_ref02_Ask) _ _ h0_0 (r63, r64) hr65) (args3 rfl rfl rfl)) rfl ?_ ?_
 rintro _ M66 _ hle67 ⟨_, ⟨vq69_2, vq69_3, cq69_3, rfl, rfl, hq69_2, hq69_3⟩, rfl⟩
 have h0_0 := h0_0.mono hle67
 refine ⟨(StabL.anc rfl (StabL.anc rfl (StabL.anc rfl (StabL.anc rfl (StabL.anc rfl (StabL.anc rfl (StabL.anc rfl (StabL.anc rfl (StabL.anc rfl (StabL.anc rfl trivial)))))))))), ?_⟩
 refine WT.a1 ?_
 refine Tp (.tuple #[(a29_ r63), (a96_ r64 vq69_2 vq69_3)]) rfl (PO.move rfl) rfl ?_
 refine Tp (a29_ r63) rfl (PO.extract rfl rfl) rfl ?_
 refine Tp (a96_ r64 vq69_2 vq69_3) rfl (PO.extract rfl rfl) rfl ?_
 refine WT.alt rfl (EO.alloc ze29 rfl) rfl ?_ ?_
 rintro _ _ _ - ⟨rfl, g70, rfl, rfl⟩
 refine ⟨(StabL.st (StabA.of rfl (PO.extract rfl rfl) rfl) (StabL.st (StabA.of rfl (PO.extract rfl rfl) rfl) (StabL.st (StabA.of rfl (PO.move rfl) rfl) (StabL.st (StabA.of rfl (PO.buildL (cl := [(.int .i64 1), (.int .i64 a1), (.int .i64 0)]) ze100 fp100 (Parts.cons (congrArg Value.cells (show ev _ _ = (.int .i64 1) from rfl)) (Parts.cons (congrArg Value.cells (show ev _ _ = (.int .i64 a1) from rfl)) Parts.nil)) rfl) rfl) (StabL.st (StabA.of rfl (PO.move (hρ 1)) rfl) (StabL.st (StabA.of rfl (PO.loadBA (cs := (l29 a0.S)) 3 ag29 sz29 rfl rfl rfl) rfl) (StabL.st (StabA.of rfl (PO.fieldAddr fo31_1 rfl rfl) rfl) (StabL.st (StabA.of rfl (PO.nilCheck rfl) rfl) (StabL.st (StabA.of rfl (PO.move (hρ 0)) rfl) (StabL.st (StabA.of rfl (PO.loadB 3 pl22 rfl rfl rfl) rfl) (StabL.st (StabA.of rfl (PO.fieldAddr fo31_0 rfl rfl) rfl) (StabL.st (StabA.of rfl (PO.nilCheck rfl) rfl) (StabL.st (StabA.of rfl (PO.move (hρ 0)) rfl) trivial))))))))))))), ?_⟩
 refine WT.alt rfl (EO.storeL (v := (a29_ r63)) (vl := (l29 r63)) (arr' := (l29 r63)) rfl sz29 rfl rfl (onesOf (Ones.cons rfl (Ones.cons rfl (Ones.cons rfl (Ones.cons rfl Ones.nil))))) rfl rfl rfl) rfl ?_ ?_
 rintro _ _ _ - ⟨rfl, rfl⟩
 refine ⟨(StabL.st (StabA.of rfl (PO.extract rfl rfl) rfl) (StabL.anc rfl (StabL.anc rfl (StabL.anc rfl (StabL.anc rfl (StabL.anc rfl (StabL.anc rfl (StabL.anc rfl (StabL.anc rfl (StabL.anc rfl (StabL.anc rfl (StabL.anc rfl (StabL.anc rfl trivial))))))))))))), ?_⟩
 refine WT.f2 ?_
 refine WT.alt rfl (EO.storeL (v := (a96_ r64 vq69_2 vq69_3)) (vl := (l96 r64 vq69_2 vq69_3)) (arr' := (l96 r64 vq69_2 vq69_3)) rfl sz96 rfl rfl (onesOf (Ones.cons rfl (Ones.cons rfl (Ones.cons (RS.one hq69_2) (Ones.cons (OwnS.one hq69_3) Ones.nil))))) rfl rfl rfl) rfl ?_ ?_
 rintro _ _ _ - ⟨rfl, rfl⟩
 refine ⟨(StabL.anc rfl (StabL.anc rfl (StabL.anc rfl (StabL.anc rfl (StabL.anc rfl (StabL.anc rfl (StabL.anc rfl (StabL.anc rfl (StabL.anc rfl (StabL.anc rfl (StabL.anc rfl (StabL.anc rfl (StabL.anc rfl trivial))))))))))))), ?_⟩
 refine WT.fin ?_
 refine WQ.f2 ?_
 refine WQ.f1 ?_
 refine WQ.f2 ?_
 refine WQ.f3 ?_
 obtain rfl := Option.some.inj h
 refine WQ.thenJ ?_
 exact ⟨g70, g61, vq69_2, vq69_3, cq69_3, hle67, rfl, (hρ 0), rfl, rfl, hq69_2, hq69_3⟩
 exact WT.no
 exact WT.no
 exact WT.no
 have h := hk62
 refine WT.alt rfl (EO.alloc ze29 rfl) rfl ?_ ?_
 rintro _ _ _ - ⟨rfl, g71, rfl, rfl⟩
 refine ⟨(StabL.st (StabA.of rfl (PO.buildL (cl := [(.int .i64 1), (.int .i64 a1), (.int .i64 0)]) ze100 fp100 (Parts.cons (congrArg Value.cells (show ev _ _ = (.int .i64 1) from rfl)) (Parts.cons (congrArg Value.cells (show ev _ _ = (.int .i64 a1) from rfl)) Parts.nil)) rfl) rfl) (StabL.st (StabA.of rfl (PO.move (hρ 1)) rfl) (StabL.st (StabA.of rfl (PO.loadBA (cs := (l29 a0.S)) 2 ag29 sz29 rfl rfl rfl) rfl) (StabL.st (StabA.of rfl (PO.fieldAddr fo31_1 rfl rfl) rfl) (StabL.st (StabA.of rfl (PO.nilCheck rfl) rfl) (StabL.st (StabA.of rfl (PO.move (hρ 0)) rfl) (StabL.st (StabA.of rfl (PO.loadB 2 pl22 rfl rfl rfl) rfl) (StabL.st (StabA.of rfl (PO.fieldAddr fo31_0 rfl rfl) rfl) (StabL.st (StabA.of rfl (PO.nilCheck rfl) rfl) (StabL.st (StabA.of rfl (PO.move (hρ 0)) rfl) trivial)))))))))), ?_⟩
 obtain ⟨⟨r72, r73⟩, hr74, h⟩ := bnd h
 refine WT.alt rfl (EO.call0 co64 (f_ref02_Read_ok a0.B a0.S (⟨(1 : Int), a1, (0 : Int)⟩ : T_ref02_Ask) _ _ h0_0 (r72, r73) hr74) (args3 rfl rfl rfl)) rfl ?_ ?_
 rintro _ M75 _ hle76 ⟨_, ⟨vq78_2, vq78_3, cq78_3, rfl, rfl, hq78_2, hq78_3⟩, rfl⟩
 have h0_0 := h0_0.mono hle76
 refine ⟨(StabL.anc rfl (StabL.anc rfl (StabL.anc rfl (StabL.anc rfl (StabL.anc rfl (StabL.anc rfl (StabL.anc rfl (StabL.anc rfl (StabL.anc rfl (StabL.anc rfl trivial)))))))))), ?_⟩
 refine WT.a1 ?_
 refine Tp (.tuple #[(a29_ r72), (a96_ r73 vq78_2 vq78_3)]) rfl (PO.move rfl) rfl ?_
 refine Tp (a29_ r72) rfl (PO.extract rfl rfl) rfl ?_
 refine Tp (a96_ r73 vq78_2 vq78_3) rfl (PO.extract rfl rfl) rfl ?_
 refine WT.f1 ?_
 refine WT.alt rfl (EO.storeL (v := (a29_ r72)) (vl := (l29 r72)) (arr' := (l29 r72)) rfl sz29 rfl rfl (onesOf (Ones.cons rfl (Ones.cons rfl (Ones.cons rfl (Ones.cons rfl Ones.nil))))) rfl rfl rfl) rfl ?_ ?_
 rintro _ _ _ - ⟨rfl, rfl⟩
 refine ⟨(StabL.st (StabA.of rfl (PO.extract rfl rfl) rfl) (StabL.anc rfl (StabL.anc rfl (StabL.anc rfl (StabL.anc rfl (StabL.anc rfl (StabL.anc rfl (StabL.anc rfl (StabL.anc rfl (StabL.anc rfl (StabL.anc rfl (StabL.anc rfl (StabL.anc rfl trivial))))))))))))), ?_⟩
 refine WT.f2 ?_
 refine WT.alt rfl (EO.storeL (v := (a96_ r73 vq78_2 vq78_3)) (vl := (l96 r73 vq78_2 vq78_3)) (arr' := (l96 r73 vq78_2 vq78_3)) rfl sz96 rfl rfl (onesOf (Ones.cons rfl (Ones.cons rfl (Ones.cons (RS.one hq78_2) (Ones.cons (OwnS.one hq78_3) Ones.nil))))) rfl rfl rfl) rfl ?_ ?_
 rintro _ _ _ - ⟨rfl, rfl⟩
 refine ⟨(StabL.anc rfl (StabL.anc rfl (StabL.anc rfl (StabL.anc rfl (StabL.anc rfl (StabL.anc rfl (StabL.anc rfl (StabL.anc rfl (StabL.anc rfl (StabL.anc rfl (StabL.anc rfl (StabL.anc rfl (StabL.anc rfl trivial))))))))))))), ?_⟩
 refine WT.fin ?_
 refine WQ.f2 ?_
 refine WQ.f1 ?_
 refine WQ.f2 ?_
 refine WQ.f3 ?_
 obtain rfl := Option.some.inj h
 refine WQ.thenJ ?_
 exact ⟨g71, g61, vq78_2, vq78_3, cq78_3, hle76, rfl, (hρ 0), rfl, rfl, hq78_2, hq78_3⟩
 exact WT.no
 exact WT.no
 exact WT.no
 exact WT.no
 exact WT.no
 obtain ⟨x22, x24, x25, x26, x27⟩ := j28
 rintro ρ28 M28 H28 ⟨g21, g23, vx26, vx27, cx27, hle28, rfl, hs28_0, hs28_5, hs28_6, hx26, hx27⟩
 have h0_0 := h0_0.mono hle28
 refine Sr ?_
 refine Pm (pt g0 0) hs28_0 rfl ?_
 refine Pu (a29_ x22) (PO.loadBA (cs := (l29 x22)) 1 ag29 sz29 hs28_5 rfl rfl) rfl ?_
 refine Pu (pt g0 0) (PO.nilCheck rfl) rfl ?_
 refine Pu (pt g0 1) (PO.fieldAddr fo31_1 rfl rfl) rfl ?_
 refine WL.eff (EO.storeL (v := (a29_ x22)) (vl := (l29 x22)) (arr' := [v0_0, (.int .i64 x22.At), (.int .i64 x22.Code), (.string x22.Op), (.int .i64 x22.Where)]) rfl sz29 rfl rfl (onesOf (Ones.cons rfl (Ones.cons rfl (Ones.cons rfl (Ones.cons rfl Ones.nil))))) rfl rfl rfl) rfl ?_
 rintro _ _ _ - ⟨rfl, rfl⟩
 refine Ns ?_
 refine Pu (pt g23 0) (PO.fieldAddr fo96_0 hs28_6 rfl) rfl ?_
 refine Pu (.int .u64 x24) (PO.loadB 2 pl90 rfl rfl rfl) rfl ?_
 refine Pu (.int .i64 (IntKind.i64.wrap x24)) (PO.conv us90 Tryz.underlying3 rfl) rfl ?_
 refine Pa (.int .i64 (IntKind.i64.wrap x24)) rfl rfl ?_
 refine Nt ?_
 refine WC.ret ?_
 refine WQ.f1 ?_
 refine WQ.drop ?_
 refine WQ.f1 ?_
 refine WQ.drop ?_
 refine WQ.f1 ?_
 refine WQ.drop ?_
 exact WQ.returnsF h [[(g0, .cells #[v0_0, (.int .i64 x22.At), (.int .i64 x22.Code), (.string x22.Op), (.int .i64 x22.Where)] 31 (0, 0))]] rfl (results1 rfl rfl) hle28 ⟨rfl, rfl⟩

noncomputable def f_ref05_Cursor_Refuse (a0 : T_ref05_Cursor) (a1 : ByteArray) (a2 : Int) : Option (Int × ByteArray × Int) :=
  (if (decide (a0.S.Code = (0 : Int))) = true then (some (a2, a1, a0.S.At)) else (some (a0.S.Code, a0.S.Op, a0.S.Where)))
def f_ref05_Cursor_Refuse_post (a0 : T_ref05_Cursor) (a1 : ByteArray) (a2 : Int) (v0_0 : Value) (g0 : Nat) : (Int × ByteArray × Int) → Value → IM → HL → Prop :=
  fun (p_ : (Int × ByteArray × Int)) (v : Value) (M' : IM) (H' : HL) => match p_ with | (r0, r1, r2) => (.tuple #[]) = v ∧ H' = [[(g0, .cells #[v0_0, (.int .i64 a0.S.At), (.int .i64 r0), (.string r1), (.int .i64 r2)] 31 (0, 0))]]
theorem f_ref05_Cursor_Refuse_ok (a0 : T_ref05_Cursor) (a1 : ByteArray) (a2 : Int) (M : IM) (v0_0 : Value) (g0 : Nat) (h0_0 : RS (Kd.int .u8) M v0_0 a0.B) (res : (Int × ByteArray × Int)) (h : f_ref05_Cursor_Refuse a0 a1 a2 = some res) :
    Tri Tryz.prog 32 #[(pt g0 0), (.string a1), (.int .i64 a2)] M [[(g0, .cells (l31 a0 v0_0).toArray 31 (0, 0))]] (f_ref05_Cursor_Refuse_post a0 a1 a2 v0_0 g0 res) := by
 unfold f_ref05_Cursor_Refuse at h
 refine Tri.enter (fn := Tryz.f32) Tryz.func32 rfl (Nat.le_of_ble_eq_true rfl) ?_
 intro F ρ hρ
 refine Sr ?_
 refine Pm (pt g0 0) (hρ 0) rfl ?_
 refine Pu (pt g0 0) (PO.nilCheck rfl) rfl ?_
 refine Pu (pt g0 1) (PO.fieldAddr fo31_1 rfl rfl) rfl ?_
 refine Pu (pt g0 2) (PO.fieldAddr fo29_1 rfl rfl) rfl ?_
 refine Pu (.int .i64 a0.S.Code) (PO.loadB 0 pl27 rfl rfl rfl) rfl ?_
 refine Pu (.bool (decide (a0.S.Code = 0))) (PO.eql rfl rfl) rfl ?_
 refine Nt ?_
 refine WC.cond (b := decide (a0.S.Code = 0)) rfl (fun hb21 => ?_) (fun hb21 => ?_)
 have h := ite_t hb21 h
 refine WC.draw [0, 0, 2, 6, 14, 30, 0, 0, 0, 256, 768, 1792, 3840, 8190, 16383, 32767, 65535] (.pure 0 (.pure 1 (.pure 2 (.pure 3 (.pure 4 (.pure 5 (.pure 6 (.pure 7 (.pure 8 (.pure 9 (.pure 10 (.pure 11 (.pure 12 (.pure 13 (.pure 14 (.pure 15 (.alt 16 .done .none))))))))))))))))) mixed (by kernel_rfl) ?_
 refine Tp (pt g0 0) rfl (PO.move (hρ 0)) rfl ?_
 refine Tp (pt g0 0) rfl (PO.move (hρ 0)) rfl ?_
 refine Tp (pt g0 0) rfl (PO.nilCheck rfl) rfl ?_
 refine Tp (pt g0 1) rfl (PO.fieldAddr fo31_1 rfl rfl) rfl ?_
 refine Tp (pt g0 1) rfl (PO.fieldAddr fo29_0 rfl rfl) rfl ?_
 refine Tp (.int .i64 a0.S.At) rfl (PO.loadB 0 pl3 rfl rfl rfl) rfl ?_
 refine Tp (.int .i64 a2) rfl (PO.move (hρ 2)) rfl ?_
 refine Tp (.string a1) rfl (PO.move (hρ 1)) rfl ?_
 refine Tp (pt g0 0) rfl (PO.move (hρ 0)) rfl ?_
 refine Tp (pt g0 0) rfl (PO.nilCheck rfl) rfl ?_
 refine Tp (pt g0 1) rfl (PO.fieldAddr fo31_1 rfl rfl) rfl ?_
 refine Tp (pt g0 1) rfl (PO.fieldAddr fo29_0 rfl rfl) rfl ?_
 refine Tp (.int .i64 a0.S.At) rfl (PO.loadB 0 pl3 rfl rfl rfl) rfl ?_
 refine Tp (.agg #[(.int .i64 a0.S.At), (.int .i64 a2), (.string a1), (.int .i64 a0.S.At)]) rfl (PO.buildL (cl := [(.int .i64 a0.S.At), (.int .i64 a2), (.string a1), (.int .i64 a0.S.At)]) ze29 fp29 (Parts.cons (congrArg Value.cells (show ev _ _ = (.int .i64 a0.S.At) from rfl)) (Parts.cons (congrArg Value.cells (show ev _ _ = (.int .i64 a2) from rfl)) (Parts.cons (congrArg Value.cells (show ev _ _ = (.string a1) from rfl)) (Parts.cons (congrArg Value.cells (show ev _ _ = (.int .i64 a0.S.At) from rfl)) Parts.nil)))) rfl) rfl ?_
 refine Tp (pt g0 0) rfl (PO.nilCheck rfl) rfl ?_
 refine Tp (pt g0 1) rfl (PO.fieldAddr fo31_1 rfl rfl) rfl ?_
 refine WT.alt rfl (EO.storeL (v := (.agg #[(.int .i64 a0.S.At), (.int .i64 a2), (.string a1), (.int .i64 a0.S.At)])) (vl := [(.int .i64 a0.S.At), (.int .i64 a2), (.string a1), (.int .i64 a0.S.At)]) (arr' := [v0_0, (.int .i64 a0.S.At), (.int .i64 a2), (.string a1), (.int .i64 a0.S.At)]) rfl sz29 rfl rfl (onesOf (Ones.cons rfl (Ones.cons rfl (Ones.cons rfl (Ones.cons rfl Ones.nil))))) rfl rfl rfl) rfl ?_ ?_
 rintro _ _ _ - ⟨rfl, rfl⟩
 refine ⟨(StabL.anc rfl (StabL.anc rfl (StabL.anc rfl (StabL.anc rfl (StabL.anc rfl (StabL.anc rfl (StabL.anc rfl (StabL.anc rfl (StabL.anc rfl (StabL.anc rfl (StabL.anc rfl (StabL.anc rfl (StabL.anc rfl (StabL.anc rfl (StabL.anc rfl (StabL.anc rfl trivial)))))))))))))))), ?_⟩
 refine WT.fin ?_
 exact WQ.endsF h [[(g0, .cells #[v0_0, (.int .i64 a0.S.At), (.int .i64 a2), (.string a1), (.int .i64 a0.S.At)] 31 (0, 0))]] rfl (results0 rfl) (IM.le.refl _) ⟨rfl, rfl⟩
 exact WT.no
 have h := ite_f hb21 h
 refine WC.skip ?_
 exact WQ.endsF h [[(g0, .cells (l31 a0 v0_0).toArray 31 (0, 0))]] rfl (results0 rfl) (IM.le.refl _) ⟨rfl, rfl⟩

noncomputable def f_ref05_has_l0 (a1 : Int) (x21 : ByteArray) (s_ : Int) : Option (Int ⊕ (Unit ⊕ Unit)) :=
  match s_ with
  | x38 =>
    (if (decide (x38 < (x21.size : Int))) = true then (grd (0 ≤ x38 ∧ x38 < x21.size) (if (decide ((btAt x21 x38) = a1)) = true then (some (Sum.inr (Sum.inr ()))) else (some (Sum.inl (IntKind.i64.wrap (x38 + (1 : Int))))))) else (some (Sum.inr (Sum.inl ()))))
noncomputable def f_ref05_has (a0 : Int) (a1 : Int) : Option Bool :=
  (((if (decide (a0 = (2 : Int))) = true then (some (⟨#[98, 101, 114]⟩ : ByteArray)) else (((if (decide (a0 = (3 : Int))) = true then (some (decide (a0 = (3 : Int)))) else (if (decide (a0 = (4 : Int))) = true then (some (decide (a0 = (4 : Int)))) else (if (decide (a0 = (5 : Int))) = true then (some (decide (a0 = (5 : Int)))) else (some (decide (a0 = (6 : Int))))))) : Option Bool).bind fun (x24 : Bool) => (if x24 = true then (some (⟨#[98, 101]⟩ : ByteArray)) else (if (decide (a0 = (7 : Int))) = true then (some (⟨#[116, 110]⟩ : ByteArray)) else (if (decide (a0 = (8 : Int))) = true then (some (⟨#[116, 112, 108, 105, 109]⟩ : ByteArray)) else (if (decide (a0 = (9 : Int))) = true then (some (⟨#[116, 101, 112, 108, 105, 109, 120]⟩ : ByteArray)) else (if (decide (a0 = (10 : Int))) = true then (some (⟨#[116, 107, 118, 102]⟩ : ByteArray)) else (if (decide (a0 = (11 : Int))) = true then (some (⟨#[116]⟩ : ByteArray)) else (if (decide (a0 = (12 : Int))) = true then (some (⟨#[97]⟩ : ByteArray)) else (some (⟨#[]⟩ : ByteArray))))))))))) : Option ByteArray).bind fun (x21 : ByteArray) => ((((iter (f_ref05_has_l0 a1 x21) (0 : Int)).bind (Sum.elim (fun _ => (some (Sum.inl ()))) (fun _ => (((some true)).bind fun r => some (Sum.inr r))))) : Option (Unit ⊕ Bool)).bind (Sum.elim (fun _ => (some false)) some)))
def f_ref05_has_post (a0 : Int) (a1 : Int) : Bool → Value → IM → HL → Prop :=
  fun (r0 : Bool) (v : Value) (M' : IM) (H' : HL) => (.bool r0) = v ∧ H' = []
theorem f_ref05_has_ok (a0 : Int) (a1 : Int) (M : IM) (res : Bool) (h : f_ref05_has a0 a1 = some res) :
    Tri Tryz.prog 34 #[(.int .i64 a0), (.int .u8 a1)] M [] (f_ref05_has_post a0 a1 res) := by
 unfold f_ref05_has at h
 refine Tri.enter (fn := Tryz.f34) Tryz.func34 rfl (Nat.le_of_ble_eq_true rfl) ?_
 intro F ρ hρ
 refine Sr ?_
 refine Pa (.bool false) rfl rfl ?_
 refine Ns ?_
 refine Pa (.string ⟨#[]⟩) rfl rfl ?_
 refine Nt ?_
 obtain ⟨x21, hj22, h⟩ := bnd h
 refine WC.joinF (fun (x21 : ByteArray) ρ' M' H' => M.le M' ∧ F = H' ∧ ρ' 1 = (.int .u8 a1) ∧ ρ' 5 = (.string x21)) x21 ?_ ?_
 have h322 := h
 have h := hj22
 refine Sr ?_
 refine Pm (.int .i64 a0) (hρ 0) rfl ?_
 refine Nt ?_
 refine WC.block ?_
 refine Sr ?_
 refine Pu (.bool (decide (a0 = 2))) (PO.eql rfl rfl) rfl ?_
 refine Pa (.bool (decide (a0 = 2))) rfl rfl ?_
 refine Nt ?_
 refine WC.cond (b := decide (a0 = 2)) rfl (fun hb23 => ?_) (fun hb23 => ?_)
 have h := ite_t hb23 h
 refine WC.region ?_
 refine Pa (.string ⟨#[98, 101, 114]⟩) rfl rfl ?_
 refine WL.nil ?_
 refine WQ.blockN ?_
 obtain rfl := Option.some.inj h
 refine WQ.thenJ ?_
 exact ⟨(IM.le.refl _), rfl, (hρ 1), rfl⟩
 have h := ite_f hb23 h
 obtain ⟨x24, hj25, h⟩ := bnd h
 refine WC.joinF (fun (x24 : Bool) ρ' M' H' => M.le M' ∧ F = H' ∧ ρ' 1 = (.int .u8 a1) ∧ ρ' 5 = (.string ⟨#[]⟩) ∧ ρ' 7 = (.int .i64 a0) ∧ ρ' 10 = (.bool x24)) x24 ?_ ?_
 have h325 := h
 have h := hj25
 refine Sr ?_
 refine Pu (.bool (decide (a0 = 3))) (PO.eql rfl rfl) rfl ?_
 refine Pa (.bool (decide (a0 = 3))) rfl rfl ?_
 refine Nt ?_
 refine WC.cond (b := decide (a0 = 3)) rfl (fun hb26 => ?_) (fun hb26 => ?_)
 have h := ite_t hb26 h
 refine WC.skip ?_
 obtain rfl := Option.some.inj h
 refine WQ.thenJ ?_
 exact ⟨(IM.le.refl _), rfl, (hρ 1), rfl, rfl, rfl⟩
 have h := ite_f hb26 h
 refine Sr ?_
 refine Pu (.bool (decide (a0 = 4))) (PO.eql rfl rfl) rfl ?_
 refine Pa (.bool (decide (a0 = 4))) rfl rfl ?_
 refine Nt ?_
 refine WC.cond (b := decide (a0 = 4)) rfl (fun hb27 => ?_) (fun hb27 => ?_)
 have h := ite_t hb27 h
 refine WC.skip ?_
 obtain rfl := Option.some.inj h
 refine WQ.thenJ ?_
 exact ⟨(IM.le.refl _), rfl, (hρ 1), rfl, rfl, rfl⟩
 have h := ite_f hb27 h
 refine Sr ?_
 refine Pu (.bool (decide (a0 = 5))) (PO.eql rfl rfl) rfl ?_
 refine Pa (.bool (decide (a0 = 5))) rfl rfl ?_
 refine Nt ?_
 refine WC.cond (b := decide (a0 = 5)) rfl (fun hb28 => ?_) (fun hb28 => ?_)
 have h := ite_t hb28 h
 refine WC.skip ?_
 obtain rfl := Option.some.inj h
 refine WQ.thenJ ?_
 exact ⟨(IM.le.refl _), rfl, (hρ 1), rfl, rfl, rfl⟩
 have h := ite_f hb28 h
 refine WC.region ?_
 refine Pu (.bool (decide (a0 = 6))) (PO.eql rfl rfl) rfl ?_
 refine Pa (.bool (decide (a0 = 6))) rfl rfl ?_
 refine WL.nil ?_
 obtain rfl := Option.some.inj h
 refine WQ.thenJ ?_
 exact ⟨(IM.le.refl _), rfl, (hρ 1), rfl, rfl, rfl⟩
 rintro ρ25 M25 H25 ⟨hle25, rfl, hs25_1, hs25_5, hs25_7, hs25_10⟩
 refine WC.cond (b := x24) hs25_10 (fun hb29 => ?_) (fun hb29 => ?_)
 have h := ite_t hb29 h
 refine WC.region ?_
 refine Pa (.string ⟨#[98, 101]⟩) rfl rfl ?_
 refine WL.nil ?_
 refine WQ.blockN ?_
 obtain rfl := Option.some.inj h
 refine WQ.thenJ ?_
 exact ⟨hle25, rfl, hs25_1, rfl⟩
 have h := ite_f hb29 h
 refine Sr ?_
 refine Pu (.bool (decide (a0 = 7))) (PO.eql hs25_7 rfl) rfl ?_
 refine Pa (.bool (decide (a0 = 7))) rfl rfl ?_
 refine Nt ?_
 refine WC.cond (b := decide (a0 = 7)) rfl (fun hb30 => ?_) (fun hb30 => ?_)
 have h := ite_t hb30 h
 refine WC.region ?_
 refine Pa (.string ⟨#[116, 110]⟩) rfl rfl ?_
 refine WL.nil ?_
 refine WQ.blockN ?_
 obtain rfl := Option.some.inj h
 refine WQ.thenJ ?_
 exact ⟨hle25, rfl, hs25_1, rfl⟩
 have h := ite_f hb30 h
 refine Sr ?_
 refine Pu (.bool (decide (a0 = 8))) (PO.eql hs25_7 rfl) rfl ?_
 refine Pa (.bool (decide (a0 = 8))) rfl rfl ?_
 refine Nt ?_
 refine WC.cond (b := decide (a0 = 8)) rfl (fun hb31 => ?_) (fun hb31 => ?_)
 have h := ite_t hb31 h
 refine WC.region ?_
 refine Pa (.string ⟨#[116, 112, 108, 105, 109]⟩) rfl rfl ?_
 refine WL.nil ?_
 refine WQ.blockN ?_
 obtain rfl := Option.some.inj h
 refine WQ.thenJ ?_
 exact ⟨hle25, rfl, hs25_1, rfl⟩
 have h := ite_f hb31 h
 refine Sr ?_
 refine Pu (.bool (decide (a0 = 9))) (PO.eql hs25_7 rfl) rfl ?_
 refine Pa (.bool (decide (a0 = 9))) rfl rfl ?_
 refine Nt ?_
 refine WC.cond (b := decide (a0 = 9)) rfl (fun hb32 => ?_) (fun hb32 => ?_)
 have h := ite_t hb32 h
 refine WC.region ?_
 refine Pa (.string ⟨#[116, 101, 112, 108, 105, 109, 120]⟩) rfl rfl ?_
 refine WL.nil ?_
 refine WQ.blockN ?_
 obtain rfl := Option.some.inj h
 refine WQ.thenJ ?_
 exact ⟨hle25, rfl, hs25_1, rfl⟩
 have h := ite_f hb32 h
 refine Sr ?_
 refine Pu (.bool (decide (a0 = 10))) (PO.eql hs25_7 rfl) rfl ?_
 refine Pa (.bool (decide (a0 = 10))) rfl rfl ?_
 refine Nt ?_
 refine WC.cond (b := decide (a0 = 10)) rfl (fun hb33 => ?_) (fun hb33 => ?_)
 have h := ite_t hb33 h
 refine WC.region ?_
 refine Pa (.string ⟨#[116, 107, 118, 102]⟩) rfl rfl ?_
 refine WL.nil ?_
 refine WQ.blockN ?_
 obtain rfl := Option.some.inj h
 refine WQ.thenJ ?_
 exact ⟨hle25, rfl, hs25_1, rfl⟩
 have h := ite_f hb33 h
 refine Sr ?_
 refine Pu (.bool (decide (a0 = 11))) (PO.eql hs25_7 rfl) rfl ?_
 refine Pa (.bool (decide (a0 = 11))) rfl rfl ?_
 refine Nt ?_
 refine WC.cond (b := decide (a0 = 11)) rfl (fun hb34 => ?_) (fun hb34 => ?_)
 have h := ite_t hb34 h
 refine WC.region ?_
 refine Pa (.string ⟨#[116]⟩) rfl rfl ?_
 refine WL.nil ?_
 refine WQ.blockN ?_
 obtain rfl := Option.some.inj h
 refine WQ.thenJ ?_
 exact ⟨hle25, rfl, hs25_1, rfl⟩
 have h := ite_f hb34 h
 refine Sr ?_
 refine Pu (.bool (decide (a0 = 12))) (PO.eql hs25_7 rfl) rfl ?_
 refine Pa (.bool (decide (a0 = 12))) rfl rfl ?_
 refine Nt ?_
 refine WC.cond (b := decide (a0 = 12)) rfl (fun hb35 => ?_) (fun hb35 => ?_)
 have h := ite_t hb35 h
 refine WC.region ?_
 refine Pa (.string ⟨#[97]⟩) rfl rfl ?_
 refine WL.nil ?_
 refine WQ.blockN ?_
 obtain rfl := Option.some.inj h
 refine WQ.thenJ ?_
 exact ⟨hle25, rfl, hs25_1, rfl⟩
 have h := ite_f hb35 h
 refine WC.skip ?_
 refine WQ.blockN ?_
 obtain rfl := Option.some.inj h
 refine WQ.thenJ ?_
 exact ⟨hle25, rfl, hs25_1, hs25_5⟩
 rintro ρ22 M22 H22 ⟨hle22, rfl, hs22_1, hs22_5⟩
 obtain ⟨j36, hj36, h⟩ := bnd h
 refine WC.joinE (fun (_ : Unit) ρ' M' H' => M22.le M' ∧ F = H') j36 ?_ ?_
 have h336 := h
 have h := hj36
 refine Sr ?_
 refine Pa (.int .i64 0) rfl rfl ?_
 refine Nt ?_
 refine WC.block ?_
 obtain ⟨e37, he37, hK37⟩ := bnd h
 clear h
 refine WC.loop he37 (fun (x38 : Int) ρ' M' H' => M22.le M' ∧ F = H' ∧ ρ' 1 = (.int .u8 a1) ∧ ρ' 5 = (.string x21) ∧ ρ' 6 = (.int .i64 x38)) ?_ ?_
 exact ⟨(IM.le.refl _), rfl, hs22_1, hs22_5, rfl⟩
 rintro x38 o37 ρ37 M37 H37 h ⟨hle37, rfl, hs37_1, hs37_5, hs37_6⟩
 unfold f_ref05_has_l0 at h
 refine WC.seq ?_
 refine Sr ?_
 refine Pm (.int .i64 x38) hs37_6 rfl ?_
 refine Pm (.string x21) hs37_5 rfl ?_
 refine Pu (.int .i64 (x21.size : Int)) (PO.lenStr Tryz.underlying9 rfl) rfl ?_
 refine Pu (.bool (decide (x38 < (x21.size : Int)))) (PO.lss rfl rfl) rfl ?_
 refine Nt ?_
 refine WC.cond (b := decide (x38 < (x21.size : Int))) rfl (fun hb39 => ?_) (fun hb39 => ?_)
 have h := ite_t hb39 h
 refine WC.skip ?_
 refine WQ.thenC ?_
 refine WC.seq ?_
 refine WC.block ?_
 refine Sr ?_
 refine Pm (.string x21) hs37_5 rfl ?_
 refine Pm (.int .i64 x38) hs37_6 rfl ?_
 obtain ⟨hg40, h⟩ := grd_i h
 refine Pu (.int .u8 (btAt x21 x38)) (PO.indexStr Tryz.underlying9 rfl rfl hg40.1 (strAt hg40)) rfl ?_
 refine Pm (.int .u8 a1) hs37_1 rfl ?_
 refine Pu (.bool (decide ((btAt x21 x38) = a1))) (PO.eql rfl rfl) rfl ?_
 refine Nt ?_
 refine WC.cond (b := decide ((btAt x21 x38) = a1)) rfl (fun hb42 => ?_) (fun hb42 => ?_)
 have h := ite_t hb42 h
 refine Sr ?_
 refine Pa (.bool true) rfl rfl ?_
 refine Nt ?_
 refine WC.ret ?_
 refine WQ.blockR ?_
 refine WQ.thenR ?_
 refine WQ.leaveR (Sum.inr ()) (Option.some.inj h).symm (fun heq37 => ?_)
 subst heq37
 have h := (elimR hK37)
 refine WQ.blockR ?_
 refine WQ.thenR ?_
 have h := KK.early h h336
 exact WQ.returnsF h [] rfl (results1 rfl rfl) (hle22.trans hle37) ⟨rfl, rfl⟩
 have h := ite_f hb42 h
 refine WC.skip ?_
 refine WQ.blockN ?_
 refine WQ.thenC ?_
 refine WC.region ?_
 refine Pm (.int .i64 x38) hs37_6 rfl ?_
 refine Pu (.int .i64 (IntKind.i64.wrap (x38 + 1))) (PO.add rfl rfl) rfl ?_
 refine Pa (.int .i64 (IntKind.i64.wrap (x38 + 1))) rfl rfl ?_
 refine WL.nil ?_
 refine WQ.again (IntKind.i64.wrap (x38 + 1)) (Option.some.inj h).symm ?_
 exact ⟨hle37, rfl, hs37_1, hs37_5, rfl⟩
 have h := ite_f hb39 h
 refine WC.exit ?_
 refine WQ.thenE ?_
 refine WQ.leaveE (Sum.inl ()) (Option.some.inj h).symm (fun heq37 => ?_)
 subst heq37
 have h := elimL hK37
 refine WQ.blockH ?_
 refine WQ.thenFE h ?_
 exact ⟨hle37, rfl⟩
 rintro _ ρ36 M36 H36 rfl ⟨hle36, rfl⟩
 have h := (Sum.elim_inl _ _ _).symm.trans h
 refine Sr ?_
 refine Pa (.bool false) rfl rfl ?_
 refine Nt ?_
 refine WC.ret ?_
 exact WQ.returnsF h [] rfl (results1 rfl rfl) (hle22.trans hle36) ⟨rfl, rfl⟩

noncomputable def f_ref05_Cursor_some (a0 : T_ref05_Cursor) (a1 : Bool) : Option (Int × Int × Int × ByteArray × Int) :=
  (if (!a1) = true then (some ((0 : Int), a0.S.At, a0.S.Code, a0.S.Op, a0.S.Where)) else ((f_ref05_Cursor_Int a0 (1073741824 : Int)).bind fun (r22, r23, r24, r25, r26) => (some (r22, r23, r24, r25, r26))))
def f_ref05_Cursor_some_post (a0 : T_ref05_Cursor) (a1 : Bool) (v0_0 : Value) (g0 : Nat) : (Int × Int × Int × ByteArray × Int) → Value → IM → HL → Prop :=
  fun (p_ : (Int × Int × Int × ByteArray × Int)) (v : Value) (M' : IM) (H' : HL) => match p_ with | (r0, r1, r2, r3, r4) => (.int .i64 r0) = v ∧ H' = [[(g0, .cells #[v0_0, (.int .i64 r1), (.int .i64 r2), (.string r3), (.int .i64 r4)] 31 (0, 0))]]
theorem f_ref05_Cursor_some_ok (a0 : T_ref05_Cursor) (a1 : Bool) (M : IM) (v0_0 : Value) (g0 : Nat) (h0_0 : RS (Kd.int .u8) M v0_0 a0.B) (res : (Int × Int × Int × ByteArray × Int)) (h : f_ref05_Cursor_some a0 a1 = some res) :
    Tri Tryz.prog 33 #[(pt g0 0), (.bool a1)] M [[(g0, .cells (l31 a0 v0_0).toArray 31 (0, 0))]] (f_ref05_Cursor_some_post a0 a1 v0_0 g0 res) := by
 unfold f_ref05_Cursor_some at h
 refine Tri.enter (fn := Tryz.f33) Tryz.func33 rfl (Nat.le_of_ble_eq_true rfl) ?_
 intro F ρ hρ
 refine Sr ?_
 refine Pa (.int .i64 0) rfl rfl ?_
 refine Nt ?_
 refine WC.seq ?_
 refine Sr ?_
 refine Pm (.bool a1) (hρ 1) rfl ?_
 refine Pu (.bool (!a1)) (PO.not rfl) rfl ?_
 refine Nt ?_
 refine WC.cond (b := !a1) rfl (fun hb21 => ?_) (fun hb21 => ?_)
 have h := ite_t hb21 h
 refine Sr ?_
 refine Pa (.int .i64 0) rfl rfl ?_
 refine Nt ?_
 refine WC.ret ?_
 refine WQ.thenR ?_
 exact WQ.returnsF h [[(g0, .cells (l31 a0 v0_0).toArray 31 (0, 0))]] rfl (results1 rfl rfl) (IM.le.refl _) ⟨rfl, rfl⟩
 have h := ite_f hb21 h
 refine WC.skip ?_
 refine WQ.thenC ?_
 refine Sr ?_
 refine Pm (pt g0 0) (hρ 0) rfl ?_
 obtain ⟨⟨r22, r23, r24, r25, r26⟩, hr27, h⟩ := bnd h
 refine WL.eff (EO.call1 co31 (f_ref05_Cursor_Int_ok a0 (1073741824 : Int) _ _ _ h0_0 (r22, r23, r24, r25, r26) hr27) (args2 rfl rfl)) rfl ?_
 rintro _ M28 _ hle29 ⟨_, ⟨rfl, rfl⟩, rfl⟩
 have h0_0 := h0_0.mono hle29
 refine WL.a1 ?_
 refine Pa (.int .i64 r22) rfl rfl ?_
 refine Nt ?_
 refine WC.ret ?_
 exact WQ.returnsF h [[(g0, .cells #[v0_0, (.int .i64 r23), (.int .i64 r24), (.string r25), (.int .i64 r26)] 31 (0, 0))]] rfl (results1 rfl rfl) hle29 ⟨rfl, rfl⟩


end Go.Proofs.YtafkdjljkolehaaGreatDoor.G
