/- Go functions: what they come to, and that they do. Printed by a program of the session (gen). -/
import Derived.Test.YtafkdjljkolehaaGreatDoorBF
import Derived.Test.YtafkdjljkolehaaGreatDoorB10
import Derived.Test.YtafkdjljkolehaaGreatDoorKConv
set_option linter.unusedVariables false
set_option linter.unusedSimpArgs false
set_option maxHeartbeats 8000000
set_option maxRecDepth 100000
namespace Go.Proofs.YtafkdjljkolehaaGreatDoor.G
open Go Go.KK

noncomputable def f_ref05_Cursor_Flag (a0 : T_ref05_Cursor) : Option (Bool × Int × Int × ByteArray × Int) :=
  ((((f_ref02_Read a0.B a0.S (⟨(2 : Int), (0 : Int), (0 : Int)⟩ : T_ref02_Ask)).bind fun (r30, r31) => (some (r30, r31.Num, r31.Flag, r31.Text, r31.Row))) : Option (T_ref02_State × Int × Bool × (List Int) × (List Int))).bind fun (x22, x24, x25, x26, x27) => (some (x25, x22.At, x22.Code, x22.Op, x22.Where)))
def f_ref05_Cursor_Flag_post (a0 : T_ref05_Cursor) (v0_0 : Value) (g0 : Nat) : (Bool × Int × Int × ByteArray × Int) → Value → IM → HL → Prop :=
  fun (p_ : (Bool × Int × Int × ByteArray × Int)) (v : Value) (M' : IM) (H' : HL) => match p_ with | (r0, r1, r2, r3, r4) => (.bool r0) = v ∧ H' = [[(g0, .cells #[v0_0, (.int .i64 r1), (.int .i64 r2), (.string r3), (.int .i64 r4)] 31 (0, 0))]]
theorem f_ref05_Cursor_Flag_ok (a0 : T_ref05_Cursor) (M : IM) (v0_0 : Value) (g0 : Nat) (h0_0 : RS (Kd.int .u8) M v0_0 a0.B) (res : (Bool × Int × Int × ByteArray × Int)) (h : f_ref05_Cursor_Flag a0 = some res) :
    Tri Tryz.prog 35 #[(pt g0 0)] M [[(g0, .cells (l31 a0 v0_0).toArray 31 (0, 0))]] (f_ref05_Cursor_Flag_post a0 v0_0 g0 res) := by
 unfold f_ref05_Cursor_Flag at h
 refine Tri.enter (fn := Tryz.f35) Tryz.func35 rfl (Nat.le_of_ble_eq_true rfl) ?_
 intro F ρ hρ
 refine Sr ?_
 refine Pa (.bool false) rfl rfl ?_
 refine Nt ?_
 obtain ⟨j28, hj28, h⟩ := bnd h
 refine WC.joinF (fun (p_ : (T_ref02_State × Int × Bool × (List Int) × (List Int))) ρ' M' H' => match p_ with | (x22, x24, x25, x26, x27) => ∃ g21 g23 vx26 vx27 cx27, M.le M' ∧ [(g0, .cells (l31 a0 v0_0).toArray 31 (0, 0))] :: [(g21, .cells (l29 x22).toArray 29 (0, 0))] :: [(g23, .cells #[(.int .u64 x24), (.bool x25), vx26, vx27] 96 (0, 0))] :: cx27 :: F = H' ∧ ρ' 0 = (pt g0 0) ∧ ρ' 3 = (pt g21 0) ∧ ρ' 4 = (pt g23 0) ∧ RS (Kd.int .u8) M' vx26 x26 ∧ OwnS (Kd.int .i64) M' vx27 x27 cx27) j28 ?_ ?_
 have h328 := h
 have h := hj28
 refine WC.draw [0, 1, 3, 7, 0, 16, 48, 112, 0, 511, 1023, 2047, 2047, 0, 0, 28671, 65535] (.pure 0 (.pure 1 (.pure 2 (.pure 3 (.pure 4 (.pure 5 (.pure 6 (.pure 7 (.pure 8 (.alt 9 (.pure 10 (.pure 11 (.pure 12 (.alt 13 (.alt 14 (.alt 15 (.alt 16 .done .none) .none) .none) (.alt 14 (.alt 13 (.alt 15 (.alt 16 .done .none) .none) .none) .none))))) (.alt 13 (.alt 9 (.pure 10 (.pure 11 (.pure 12 (.alt 14 (.alt 15 (.alt 16 .done .none) .none) .none)))) (.alt 14 (.alt 9 (.pure 10 (.pure 11 (.pure 12 (.alt 15 (.alt 16 .done .none) .none)))) .none) .none)) (.alt 14 (.alt 9 (.pure 10 (.pure 11 (.pure 12 (.alt 13 (.alt 15 (.alt 16 .done .none) .none) .none)))) (.alt 13 (.alt 9 (.pure 10 (.pure 11 (.pure 12 (.alt 15 (.alt 16 .done .none) .none)))) .none) .none)) .none)))))))))))) mixed (by kernel_rfl) ?_
 refine Tp (pt g0 0) rfl (PO.move (hρ 0)) rfl ?_
 refine Tp (pt g0 0) rfl (PO.nilCheck rfl) rfl ?_
 refine Tp (pt g0 0) rfl (PO.fieldAddr fo31_0 rfl rfl) rfl ?_
 refine Tp v0_0 rfl (PO.loadB 0 pl22 rfl rfl rfl) rfl ?_
 refine Tp (pt g0 0) rfl (PO.move (hρ 0)) rfl ?_
 refine Tp (pt g0 0) rfl (PO.nilCheck rfl) rfl ?_
 refine Tp (pt g0 1) rfl (PO.fieldAddr fo31_1 rfl rfl) rfl ?_
 refine Tp (a29_ a0.S) rfl (PO.loadBA (cs := (l29 a0.S)) 0 ag29 sz29 rfl rfl rfl) rfl ?_
 refine Tp (.agg #[(.int .i64 2), (.int .i64 0), (.int .i64 0)]) rfl (PO.buildL (cl := [(.int .i64 2), (.int .i64 0), (.int .i64 0)]) ze100 fp100 (Parts.cons (congrArg Value.cells (show ev _ _ = (.int .i64 2) from rfl)) Parts.nil) rfl) rfl ?_
 have hk29 := h
 obtain ⟨⟨r30, r31⟩, hr32, h⟩ := bnd h
 refine WT.alt rfl (EO.call0 co64 (f_ref02_Read_ok a0.B a0.S (⟨(2 : Int), (0 : Int), (0 : Int)⟩ : T_ref02_Ask) _ _ h0_0 (r30, r31) hr32) (args3 rfl rfl rfl)) rfl ?_ ?_
 rintro _ M33 _ hle34 ⟨_, ⟨vq36_2, vq36_3, cq36_3, rfl, rfl, hq36_2, hq36_3⟩, rfl⟩
 have h0_0 := h0_0.mono hle34
 refine ⟨(StabL.anc rfl (StabL.anc rfl (StabL.anc rfl (StabL.anc rfl (StabL.anc rfl (StabL.anc rfl (StabL.anc rfl (StabL.anc rfl (StabL.anc rfl trivial))))))))), ?_⟩
 refine WT.a1 ?_
 refine Tp (.tuple #[(a29_ r30), (a96_ r31 vq36_2 vq36_3)]) rfl (PO.move rfl) rfl ?_
 refine Tp (a29_ r30) rfl (PO.extract rfl rfl) rfl ?_
 refine Tp (a96_ r31 vq36_2 vq36_3) rfl (PO.extract rfl rfl) rfl ?_
 have hk37 := h
 refine WT.alt rfl (EO.alloc ze29 rfl) rfl ?_ ?_
 rintro _ _ _ - ⟨rfl, g38, rfl, rfl⟩
 refine ⟨(StabL.st (StabA.of rfl (PO.extract rfl rfl) rfl) (StabL.st (StabA.of rfl (PO.extract rfl rfl) rfl) (StabL.st (StabA.of rfl (PO.move rfl) rfl) (StabL.st (StabA.of rfl (PO.buildL (cl := [(.int .i64 2), (.int .i64 0), (.int .i64 0)]) ze100 fp100 (Parts.cons (congrArg Value.cells (show ev _ _ = (.int .i64 2) from rfl)) Parts.nil) rfl) rfl) (StabL.st (StabA.of rfl (PO.loadBA (cs := (l29 a0.S)) 2 ag29 sz29 rfl rfl rfl) rfl) (StabL.st (StabA.of rfl (PO.fieldAddr fo31_1 rfl rfl) rfl) (StabL.st (StabA.of rfl (PO.nilCheck rfl) rfl) (StabL.st (StabA.of rfl (PO.move (hρ 0)) rfl) (StabL.st (StabA.of rfl (PO.loadB 2 pl22 rfl rfl rfl) rfl) (StabL.st (StabA.of rfl (PO.fieldAddr fo31_0 rfl rfl) rfl) (StabL.st (StabA.of rfl (PO.nilCheck rfl) rfl) (StabL.st (StabA.of rfl (PO.move (hρ 0)) rfl) trivial)))))))))))), ?_⟩
 refine WT.alt rfl (EO.alloc ze96 rfl) rfl ?_ ?_
 rintro _ _ _ - ⟨rfl, g39, rfl, rfl⟩
 refine ⟨(StabL.st (StabA.of rfl (PO.extract rfl rfl) rfl) (StabL.st (StabA.of rfl (PO.extract rfl rfl) rfl) (StabL.st (StabA.of rfl (PO.move rfl) rfl) (StabL.st (StabA.of rfl (PO.buildL (cl := [(.int .i64 2), (.int .i64 0), (.int .i64 0)]) ze100 fp100 (Parts.cons (congrArg Value.cells (show ev _ _ = (.int .i64 2) from rfl)) Parts.nil) rfl) rfl) (StabL.st (StabA.of rfl (PO.loadBA (cs := (l29 a0.S)) 3 ag29 sz29 rfl rfl rfl) rfl) (StabL.st (StabA.of rfl (PO.fieldAddr fo31_1 rfl rfl) rfl) (StabL.st (StabA.of rfl (PO.nilCheck rfl) rfl) (StabL.st (StabA.of rfl (PO.move (hρ 0)) rfl) (StabL.st (StabA.of rfl (PO.loadB 3 pl22 rfl rfl rfl) rfl) (StabL.st (StabA.of rfl (PO.fieldAddr fo31_0 rfl rfl) rfl) (StabL.st (StabA.of rfl (PO.nilCheck rfl) rfl) (StabL.st (StabA.of rfl (PO.move (hρ 0)) rfl) trivial)))))))))))), ?_⟩
 refine WT.f1 ?_
 refine WT.alt rfl (EO.storeL (v := (a29_ r30)) (vl := (l29 r30)) (arr' := (l29 r30)) rfl sz29 rfl rfl (onesOf (Ones.cons rfl (Ones.cons rfl (Ones.cons rfl (Ones.cons rfl Ones.nil))))) rfl rfl rfl) rfl ?_ ?_
 rintro _ _ _ - ⟨rfl, rfl⟩
 refine ⟨(StabL.st (StabA.of rfl (PO.extract rfl rfl) rfl) (StabL.anc rfl (StabL.anc rfl (StabL.anc rfl (StabL.anc rfl (StabL.anc rfl (StabL.anc rfl (StabL.anc rfl (StabL.anc rfl (StabL.anc rfl (StabL.anc rfl (StabL.anc rfl trivial)))))))))))), ?_⟩
 refine WT.f1 ?_
 refine WT.alt rfl (EO.storeL (v := (a96_ r31 vq36_2 vq36_3)) (vl := (l96 r31 vq36_2 vq36_3)) (arr' := (l96 r31 vq36_2 vq36_3)) rfl sz96 rfl rfl (onesOf (Ones.cons rfl (Ones.cons rfl (Ones.cons (RS.one hq36_2) (Ones.cons (OwnS.one hq36_3) Ones.nil))))) rfl rfl rfl) rfl ?_ ?_
 rintro _ _ _ - ⟨rfl, rfl⟩
 refine ⟨(StabL.anc rfl (StabL.anc rfl (StabL.anc rfl (StabL.anc rfl (StabL.anc rfl (StabL.anc rfl (StabL.anc rfl (StabL.anc rfl (StabL.anc rfl (StabL.anc rfl (StabL.anc rfl (StabL.anc rfl trivial)))))))))))), ?_⟩
 refine WT.fin ?_
 refine WQ.f2 ?_
 refine WQ.f1 ?_
 refine WQ.f2 ?_
 refine WQ.f3 ?_
 obtain rfl := Option.some.inj h
 refine WQ.thenJ ?_
 exact ⟨g38, g39, vq36_2, vq36_3, cq36_3, hle34, rfl, (hρ 0), rfl, rfl, hq36_2, hq36_3⟩
 exact WT.no
 exact WT.no
 exact WT.no
 have h := hk37
 refine WT.alt rfl (EO.alloc ze96 rfl) rfl ?_ ?_
 rintro _ _ _ - ⟨rfl, g40, rfl, rfl⟩
 refine ⟨(StabL.st (StabA.of rfl (PO.extract rfl rfl) rfl) (StabL.st (StabA.of rfl (PO.extract rfl rfl) rfl) (StabL.st (StabA.of rfl (PO.move rfl) rfl) (StabL.st (StabA.of rfl (PO.buildL (cl := [(.int .i64 2), (.int .i64 0), (.int .i64 0)]) ze100 fp100 (Parts.cons (congrArg Value.cells (show ev _ _ = (.int .i64 2) from rfl)) Parts.nil) rfl) rfl) (StabL.st (StabA.of rfl (PO.loadBA (cs := (l29 a0.S)) 2 ag29 sz29 rfl rfl rfl) rfl) (StabL.st (StabA.of rfl (PO.fieldAddr fo31_1 rfl rfl) rfl) (StabL.st (StabA.of rfl (PO.nilCheck rfl) rfl) (StabL.st (StabA.of rfl (PO.move (hρ 0)) rfl) (StabL.st (StabA.of rfl (PO.loadB 2 pl22 rfl rfl rfl) rfl) (StabL.st (StabA.of rfl (PO.fieldAddr fo31_0 rfl rfl) rfl) (StabL.st (StabA.of rfl (PO.nilCheck rfl) rfl) (StabL.st (StabA.of rfl (PO.move (hρ 0)) rfl) trivial)))))))))))), ?_⟩
 refine WT.alt rfl (EO.alloc ze29 rfl) rfl ?_ ?_
 rintro _ _ _ - ⟨rfl, g41, rfl, rfl⟩
 refine ⟨(StabL.st (StabA.of rfl (PO.extract rfl rfl) rfl) (StabL.st (StabA.of rfl (PO.extract rfl rfl) rfl) (StabL.st (StabA.of rfl (PO.move rfl) rfl) (StabL.st (StabA.of rfl (PO.buildL (cl := [(.int .i64 2), (.int .i64 0), (.int .i64 0)]) ze100 fp100 (Parts.cons (congrArg Value.cells (show ev _ _ = (.int .i64 2) from rfl)) Parts.nil) rfl) rfl) (StabL.st (StabA.of rfl (PO.loadBA (cs := (l29 a0.S)) 3 ag29 sz29 rfl rfl rfl) rfl) (StabL.st (StabA.of rfl (PO.fieldAddr fo31_1 rfl rfl) rfl) (StabL.st (StabA.of rfl (PO.nilCheck rfl) rfl) (StabL.st (StabA.of rfl (PO.move (hρ 0)) rfl) (StabL.st (StabA.of rfl (PO.loadB 3 pl22 rfl rfl rfl) rfl) (StabL.st (StabA.of rfl (PO.fieldAddr fo31_0 rfl rfl) rfl) (StabL.st (StabA.of rfl (PO.nilCheck rfl) rfl) (StabL.st (StabA.of rfl (PO.move (hρ 0)) rfl) trivial)))))))))))), ?_⟩
 refine WT.alt rfl (EO.storeL (v := (a29_ r30)) (vl := (l29 r30)) (arr' := (l29 r30)) rfl sz29 rfl rfl (onesOf (Ones.cons rfl (Ones.cons rfl (Ones.cons rfl (Ones.cons rfl Ones.nil))))) rfl rfl rfl) rfl ?_ ?_
 rintro _ _ _ - ⟨rfl, rfl⟩
 refine ⟨(StabL.st (StabA.of rfl (PO.extract rfl rfl) rfl) (StabL.anc rfl (StabL.anc rfl (StabL.anc rfl (StabL.anc rfl (StabL.anc rfl (StabL.anc rfl (StabL.anc rfl (StabL.anc rfl (StabL.anc rfl (StabL.anc rfl (StabL.anc rfl trivial)))))))))))), ?_⟩
 refine WT.f1 ?_
 refine WT.alt rfl (EO.storeL (v := (a96_ r31 vq36_2 vq36_3)) (vl := (l96 r31 vq36_2 vq36_3)) (arr' := (l96 r31 vq36_2 vq36_3)) rfl sz96 rfl rfl (onesOf (Ones.cons rfl (Ones.cons rfl (Ones.cons (RS.one hq36_2) (Ones.cons (OwnS.one hq36_3) Ones.nil))))) rfl rfl rfl) rfl ?_ ?_
 rintro _ _ _ - ⟨rfl, rfl⟩
 refine ⟨(StabL.anc rfl (StabL.anc rfl (StabL.anc rfl (StabL.anc rfl (StabL.anc rfl (StabL.anc rfl (StabL.anc rfl (StabL.anc rfl (StabL.anc rfl (StabL.anc rfl (StabL.anc rfl (StabL.anc rfl trivial)))))))))))), ?_⟩
 refine WT.fin ?_
 refine WQ.f2 ?_
 refine WQ.f1 ?_
 refine WQ.f2 ?_
 refine WQ.f3 ?_
 obtain rfl := Option.some.inj h
 refine WQ.thenJ ?_
 exact ⟨g41, g40, vq36_2, vq36_3, cq36_3, hle34, rfl, (hρ 0), rfl, rfl, hq36_2, hq36_3⟩
 exact WT.no
 exact WT.no
 exact WT.no
 exact WT.no
 have h := hk29
 have hk42 := h
 refine WT.alt rfl (EO.alloc ze29 rfl) rfl ?_ ?_
 rintro _ _ _ - ⟨rfl, g43, rfl, rfl⟩
 refine ⟨(StabL.st (StabA.of rfl (PO.buildL (cl := [(.int .i64 2), (.int .i64 0), (.int .i64 0)]) ze100 fp100 (Parts.cons (congrArg Value.cells (show ev _ _ = (.int .i64 2) from rfl)) Parts.nil) rfl) rfl) (StabL.st (StabA.of rfl (PO.loadBA (cs := (l29 a0.S)) 1 ag29 sz29 rfl rfl rfl) rfl) (StabL.st (StabA.of rfl (PO.fieldAddr fo31_1 rfl rfl) rfl) (StabL.st (StabA.of rfl (PO.nilCheck rfl) rfl) (StabL.st (StabA.of rfl (PO.move (hρ 0)) rfl) (StabL.st (StabA.of rfl (PO.loadB 1 pl22 rfl rfl rfl) rfl) (StabL.st (StabA.of rfl (PO.fieldAddr fo31_0 rfl rfl) rfl) (StabL.st (StabA.of rfl (PO.nilCheck rfl) rfl) (StabL.st (StabA.of rfl (PO.move (hρ 0)) rfl) trivial))))))))), ?_⟩
 have hk44 := h
 obtain ⟨⟨r45, r46⟩, hr47, h⟩ := bnd h
 refine WT.alt rfl (EO.call0 co64 (f_ref02_Read_ok a0.B a0.S (⟨(2 : Int), (0 : Int), (0 : Int)⟩ : T_ref02_Ask) _ _ h0_0 (r45, r46) hr47) (args3 rfl rfl rfl)) rfl ?_ ?_
 rintro _ M48 _ hle49 ⟨_, ⟨vq51_2, vq51_3, cq51_3, rfl, rfl, hq51_2, hq51_3⟩, rfl⟩
 have h0_0 := h0_0.mono hle49
 refine ⟨(StabL.anc rfl (StabL.anc rfl (StabL.anc rfl (StabL.anc rfl (StabL.anc rfl (StabL.anc rfl (StabL.anc rfl (StabL.anc rfl (StabL.anc rfl trivial))))))))), ?_⟩
 refine WT.a1 ?_
 refine Tp (.tuple #[(a29_ r45), (a96_ r46 vq51_2 vq51_3)]) rfl (PO.move rfl) rfl ?_
 refine Tp (a29_ r45) rfl (PO.extract rfl rfl) rfl ?_
 refine Tp (a96_ r46 vq51_2 vq51_3) rfl (PO.extract rfl rfl) rfl ?_
 refine WT.alt rfl (EO.alloc ze96 rfl) rfl ?_ ?_
 rintro _ _ _ - ⟨rfl, g52, rfl, rfl⟩
 refine ⟨(StabL.st (StabA.of rfl (PO.extract rfl rfl) rfl) (StabL.st (StabA.of rfl (PO.extract rfl rfl) rfl) (StabL.st (StabA.of rfl (PO.move rfl) rfl) (StabL.st (StabA.of rfl (PO.buildL (cl := [(.int .i64 2), (.int .i64 0), (.int .i64 0)]) ze100 fp100 (Parts.cons (congrArg Value.cells (show ev _ _ = (.int .i64 2) from rfl)) Parts.nil) rfl) rfl) (StabL.st (StabA.of rfl (PO.loadBA (cs := (l29 a0.S)) 3 ag29 sz29 rfl rfl rfl) rfl) (StabL.st (StabA.of rfl (PO.fieldAddr fo31_1 rfl rfl) rfl) (StabL.st (StabA.of rfl (PO.nilCheck rfl) rfl) (StabL.st (StabA.of rfl (PO.move (hρ 0)) rfl) (StabL.st (StabA.of rfl (PO.loadB 3 pl22 rfl rfl rfl) rfl) (StabL.st (StabA.of rfl (PO.fieldAddr fo31_0 rfl rfl) rfl) (StabL.st (StabA.of rfl (PO.nilCheck rfl) rfl) (StabL.st (StabA.of rfl (PO.move (hρ 0)) rfl) trivial)))))))))))), ?_⟩
 refine WT.f2 ?_
 refine WT.alt rfl (EO.storeL (v := (a29_ r45)) (vl := (l29 r45)) (arr' := (l29 r45)) rfl sz29 rfl rfl (onesOf (Ones.cons rfl (Ones.cons rfl (Ones.cons rfl (Ones.cons rfl Ones.nil))))) rfl rfl rfl) rfl ?_ ?_
 rintro _ _ _ - ⟨rfl, rfl⟩
 refine ⟨(StabL.st (StabA.of rfl (PO.extract rfl rfl) rfl) (StabL.anc rfl (StabL.anc rfl (StabL.anc rfl (StabL.anc rfl (StabL.anc rfl (StabL.anc rfl (StabL.anc rfl (StabL.anc rfl (StabL.anc rfl (StabL.anc rfl (StabL.anc rfl trivial)))))))))))), ?_⟩
 refine WT.f1 ?_
 refine WT.alt rfl (EO.storeL (v := (a96_ r46 vq51_2 vq51_3)) (vl := (l96 r46 vq51_2 vq51_3)) (arr' := (l96 r46 vq51_2 vq51_3)) rfl sz96 rfl rfl (onesOf (Ones.cons rfl (Ones.cons rfl (Ones.cons (RS.one hq51_2) (Ones.cons (OwnS.one hq51_3) Ones.nil))))) rfl rfl rfl) rfl ?_ ?_
 rintro _ _ _ - ⟨rfl, rfl⟩
 refine ⟨(StabL.anc rfl (StabL.anc rfl (StabL.anc rfl (StabL.anc rfl (StabL.anc rfl (StabL.anc rfl (StabL.anc rfl (StabL.anc rfl (StabL.anc rfl (StabL.anc rfl (StabL.anc rfl (StabL.anc rfl trivial)))))))))))), ?_⟩
 refine WT.fin ?_
 refine WQ.f2 ?_
 refine WQ.f1 ?_
 refine WQ.f2 ?_
 refine WQ.f3 ?_
 obtain rfl := Option.some.inj h
 refine WQ.thenJ ?_
 exact ⟨g43, g52, vq51_2, vq51_3, cq51_3, hle49, rfl, (hρ 0), rfl, rfl, hq51_2, hq51_3⟩
 exact WT.no
 exact WT.no
 exact WT.no
 have h := hk44
 refine WT.alt rfl (EO.alloc ze96 rfl) rfl ?_ ?_
 rintro _ _ _ - ⟨rfl, g53, rfl, rfl⟩
 refine ⟨(StabL.st (StabA.of rfl (PO.buildL (cl := [(.int .i64 2), (.int .i64 0), (.int .i64 0)]) ze100 fp100 (Parts.cons (congrArg Value.cells (show ev _ _ = (.int .i64 2) from rfl)) Parts.nil) rfl) rfl) (StabL.st (StabA.of rfl (PO.loadBA (cs := (l29 a0.S)) 2 ag29 sz29 rfl rfl rfl) rfl) (StabL.st (StabA.of rfl (PO.fieldAddr fo31_1 rfl rfl) rfl) (StabL.st (StabA.of rfl (PO.nilCheck rfl) rfl) (StabL.st (StabA.of rfl (PO.move (hρ 0)) rfl) (StabL.st (StabA.of rfl (PO.loadB 2 pl22 rfl rfl rfl) rfl) (StabL.st (StabA.of rfl (PO.fieldAddr fo31_0 rfl rfl) rfl) (StabL.st (StabA.of rfl (PO.nilCheck rfl) rfl) (StabL.st (StabA.of rfl (PO.move (hρ 0)) rfl) trivial))))))))), ?_⟩
 obtain ⟨⟨r54, r55⟩, hr56, h⟩ := bnd h
 refine WT.alt rfl (EO.call0 co64 (f_ref02_Read_ok a0.B a0.S (⟨(2 : Int), (0 : Int), (0 : Int)⟩ : T_ref02_Ask) _ _ h0_0 (r54, r55) hr56) (args3 rfl rfl rfl)) rfl ?_ ?_
 rintro _ M57 _ hle58 ⟨_, ⟨vq60_2, vq60_3, cq60_3, rfl, rfl, hq60_2, hq60_3⟩, rfl⟩
 have h0_0 := h0_0.mono hle58
 refine ⟨(StabL.anc rfl (StabL.anc rfl (StabL.anc rfl (StabL.anc rfl (StabL.anc rfl (StabL.anc rfl (StabL.anc rfl (StabL.anc rfl (StabL.anc rfl trivial))))))))), ?_⟩
 refine WT.a1 ?_
 refine Tp (.tuple #[(a29_ r54), (a96_ r55 vq60_2 vq60_3)]) rfl (PO.move rfl) rfl ?_
 refine Tp (a29_ r54) rfl (PO.extract rfl rfl) rfl ?_
 refine Tp (a96_ r55 vq60_2 vq60_3) rfl (PO.extract rfl rfl) rfl ?_
 refine WT.f2 ?_
 refine WT.alt rfl (EO.storeL (v := (a29_ r54)) (vl := (l29 r54)) (arr' := (l29 r54)) rfl sz29 rfl rfl (onesOf (Ones.cons rfl (Ones.cons rfl (Ones.cons rfl (Ones.cons rfl Ones.nil))))) rfl rfl rfl) rfl ?_ ?_
 rintro _ _ _ - ⟨rfl, rfl⟩
 refine ⟨(StabL.st (StabA.of rfl (PO.extract rfl rfl) rfl) (StabL.anc rfl (StabL.anc rfl (StabL.anc rfl (StabL.anc rfl (StabL.anc rfl (StabL.anc rfl (StabL.anc rfl (StabL.anc rfl (StabL.anc rfl (StabL.anc rfl (StabL.anc rfl trivial)))))))))))), ?_⟩
 refine WT.f2 ?_
 refine WT.alt rfl (EO.storeL (v := (a96_ r55 vq60_2 vq60_3)) (vl := (l96 r55 vq60_2 vq60_3)) (arr' := (l96 r55 vq60_2 vq60_3)) rfl sz96 rfl rfl (onesOf (Ones.cons rfl (Ones.cons rfl (Ones.cons (RS.one hq60_2) (Ones.cons (OwnS.one hq60_3) Ones.nil))))) rfl rfl rfl) rfl ?_ ?_
 rintro _ _ _ - ⟨rfl, rfl⟩
 refine ⟨(StabL.anc rfl (StabL.anc rfl (StabL.anc rfl (StabL.anc rfl (StabL.anc rfl (StabL.anc rfl (StabL.anc rfl (StabL.anc rfl (StabL.anc rfl (StabL.anc rfl (StabL.anc rfl (StabL.anc rfl trivial)))))))))))), ?_⟩
 refine WT.fin ?_
 refine WQ.f2 ?_
 refine WQ.f1 ?_
 refine WQ.f2 ?_
 refine WQ.f3 ?_
 obtain rfl := Option.some.inj h
 refine WQ.thenJ ?_
 exact ⟨g43, g53, vq60_2, vq60_3, cq60_3, hle58, rfl, (hρ 0), rfl, rfl, hq60_2, hq60_3⟩
 exact WT.no
 exact WT.no
 exact WT.no
 exact WT.no
 have h := hk42
 refine WT.alt rfl (EO.alloc ze96 rfl) rfl ?_ ?_
 rintro _ _ _ - ⟨rfl, g61, rfl, rfl⟩
 refine ⟨(StabL.st (StabA.of rfl (PO.buildL (cl := [(.int .i64 2), (.int .i64 0), (.int .i64 0)]) ze100 fp100 (Parts.cons (congrArg Value.cells (show ev _ _ = (.int .i64 2) from rfl)) Parts.nil) rfl) rfl) (StabL.st (StabA.of rfl (PO.loadBA (cs := (l29 a0.S)) 1 ag29 sz29 rfl rfl rfl) rfl) (StabL.st (StabA.of rfl (PO.fieldAddr fo31_1 rfl rfl) rfl) (StabL.st (StabA.of rfl (PO.nilCheck rfl) rfl) (StabL.st (StabA.of rfl (PO.move (hρ 0)) rfl) (StabL.st (StabA.of rfl (PO.loadB 1 pl22 rfl rfl rfl) rfl) (StabL.st (StabA.of rfl (PO.fieldAddr fo31_0 rfl rfl) rfl) (StabL.st (StabA.of rfl (PO.nilCheck rfl) rfl) (StabL.st (StabA.of rfl (PO.move (hρ 0)) rfl) trivial))))))))), ?_⟩
 have hk62 := h
 obtain ⟨⟨r63, r64⟩, hr65, h⟩ := bnd h
 refine WT.alt rfl (EO.call0 co64 (f_ref02_Read_ok a0.B a0.S (⟨(2 : Int), (0 : Int), (0 : Int)⟩ : T_ref02_Ask) _ _ h0_0 (r63, r64) hr65) (args3 rfl rfl rfl)) rfl ?_ ?_
 rintro _ M66 _ hle67 ⟨_, ⟨vq69_2, vq69_3, cq69_3, rfl, rfl, hq69_2, hq69_3⟩, rfl⟩
 have h0_0 := h0_0.mono hle67
 refine ⟨(StabL.anc rfl (StabL.anc rfl (StabL.anc rfl (StabL.anc rfl (StabL.anc rfl (StabL.anc rfl (StabL.anc rfl (StabL.anc rfl (StabL.anc rfl trivial))))))))), ?_⟩
 refine WT.a1 ?_
 refine Tp (.tuple #[(a29_ r63), (a96_ r64 vq69_2 vq69_3)]) rfl (PO.move rfl) rfl ?_
 refine Tp (a29_ r63) rfl (PO.extract rfl rfl) rfl ?_
 refine Tp (a96_ r64 vq69_2 vq69_3) rfl (PO.extract rfl rfl) rfl ?_
 refine WT.alt rfl (EO.alloc ze29 rfl) rfl ?_ ?_
 rintro _ _ _ - ⟨rfl, g70, rfl, rfl⟩
 refine ⟨(StabL.st (StabA.of rfl (PO.extract rfl rfl) rfl) (StabL.st (StabA.of rfl (PO.extract rfl rfl) rfl) (StabL.st (StabA.of rfl (PO.move rfl) rfl) (StabL.st (StabA.of rfl (PO.buildL (cl := [(.int .i64 2), (.int .i64 0), (.int .i64 0)]) ze100 fp100 (Parts.cons (congrArg Value.cells (show ev _ _ = (.int .i64 2) from rfl)) Parts.nil) rfl) rfl) (StabL.st (StabA.of rfl (PO.loadBA (cs := (l29 a0.S)) 3 ag29 sz29 rfl rfl rfl) rfl) (StabL.st (StabA.of rfl (PO.fieldAddr fo31_1 rfl rfl) rfl) (StabL.st (StabA.of rfl (PO.nilCheck rfl) rfl) (StabL.st (StabA.of rfl (PO.move (hρ 0)) rfl) (StabL.st (StabA.of rfl (PO.loadB 3 pl22 rfl rfl rfl) rfl) (StabL.st (StabA.of rfl (PO.fieldAddr fo31_0 rfl rfl) rfl) (StabL.st (StabA.of rfl (PO.nilCheck rfl) rfl) (StabL.st (StabA.of rfl (PO.move (hρ 0)) rfl) trivial)))))))))))), ?_⟩
 refine WT.alt rfl (EO.storeL (v := (a29_ r63)) (vl := (l29 r63)) (arr' := (l29 r63)) rfl sz29 rfl rfl (onesOf (Ones.cons rfl (Ones.cons rfl (Ones.cons rfl (Ones.cons rfl Ones.nil))))) rfl rfl rfl) rfl ?_ ?_
 rintro _ _ _ - ⟨rfl, rfl⟩
 refine ⟨(StabL.st (StabA.of rfl (PO.extract rfl rfl) rfl) (StabL.anc rfl (StabL.anc rfl (StabL.anc rfl (StabL.anc rfl (StabL.anc rfl (StabL.anc rfl (StabL.anc rfl (StabL.anc rfl (StabL.anc rfl (StabL.anc rfl (StabL.anc rfl trivial)))))))))))), ?_⟩
 refine WT.f2 ?_
 refine WT.alt rfl (EO.storeL (v := (a96_ r64 vq69_2 vq69_3)) (vl := (l96 r64 vq69_2 vq69_3)) (arr' := (l96 r64 vq69_2 vq69_3)) rfl sz96 rfl rfl (onesOf (Ones.cons rfl (Ones.cons rfl (Ones.cons (RS.one hq69_2) (Ones.cons (OwnS.one hq69_3) Ones.nil))))) rfl rfl rfl) rfl ?_ ?_
 rintro _ _ _ - ⟨rfl, rfl⟩
 refine ⟨(StabL.anc rfl (StabL.anc rfl (StabL.anc rfl (StabL.anc rfl (StabL.anc rfl (StabL.anc rfl (StabL.anc rfl (StabL.anc rfl (StabL.anc rfl (StabL.anc rfl (StabL.anc rfl (StabL.anc rfl trivial)))))))))))), ?_⟩
 refine WT.fin ?_
 refine WQ.f2 ?_
 refine WQ.f1 ?_
 refine WQ.f2 ?_
 refine WQ.f3 ?_
 obtain rfl := Option.some.inj h
 refine WQ.thenJ ?_
 exact ⟨g70, g61, vq69_2, vq69_3, cq69_3, hle67, rfl, (hρ 0), rfl, rfl, hq69_2, hq69_3⟩
 exact WT.no
 exact WT.no
 exact WT.no
 have h := hk62
 refine WT.alt rfl (EO.alloc ze29 rfl) rfl ?_ ?_
 rintro _ _ _ - ⟨rfl, g71, rfl, rfl⟩
 refine ⟨(StabL.st (StabA.of rfl (PO.buildL (cl := [(.int .i64 2), (.int .i64 0), (.int .i64 0)]) ze100 fp100 (Parts.cons (congrArg Value.cells (show ev _ _ = (.int .i64 2) from rfl)) Parts.nil) rfl) rfl) (StabL.st (StabA.of rfl (PO.loadBA (cs := (l29 a0.S)) 2 ag29 sz29 rfl rfl rfl) rfl) (StabL.st (StabA.of rfl (PO.fieldAddr fo31_1 rfl rfl) rfl) (StabL.st (StabA.of rfl (PO.nilCheck rfl) rfl) (StabL.st (StabA.of rfl (PO.move (hρ 0)) rfl) (StabL.st (StabA.of rfl (PO.loadB 2 pl22 rfl rfl rfl) rfl) (StabL.st (StabA.of rfl (PO.fieldAddr fo31_0 rfl rfl) rfl) (StabL.st (StabA.of rfl (PO.nilCheck rfl) rfl) (StabL.st (StabA.of rfl (PO.move (hρ 0)) rfl) trivial))))))))), ?_⟩
 obtain ⟨⟨r72, r73⟩, hr74, h⟩ := bnd h
 refine WT.alt rfl (EO.call0 co64 (f_ref02_Read_ok a0.B a0.S (⟨(2 : Int), (0 : Int), (0 : Int)⟩ : T_ref02_Ask) _ _ h0_0 (r72, r73) hr74) (args3 rfl rfl rfl)) rfl ?_ ?_
 rintro _ M75 _ hle76 ⟨_, ⟨vq78_2, vq78_3, cq78_3, rfl, rfl, hq78_2, hq78_3⟩, rfl⟩
 have h0_0 := h0_0.mono hle76
 refine ⟨(StabL.anc rfl (StabL.anc rfl (StabL.anc rfl (StabL.anc rfl (StabL.anc rfl (StabL.anc rfl (StabL.anc rfl (StabL.anc rfl (StabL.anc rfl trivial))))))))), ?_⟩
 refine WT.a1 ?_
 refine Tp (.tuple #[(a29_ r72), (a96_ r73 vq78_2 vq78_3)]) rfl (PO.move rfl) rfl ?_
 refine Tp (a29_ r72) rfl (PO.extract rfl rfl) rfl ?_
 refine Tp (a96_ r73 vq78_2 vq78_3) rfl (PO.extract rfl rfl) rfl ?_
 refine WT.f1 ?_
 refine WT.alt rfl (EO.storeL (v := (a29_ r72)) (vl := (l29 r72)) (arr' := (l29 r72)) rfl sz29 rfl rfl (onesOf (Ones.cons rfl (Ones.cons rfl (Ones.cons rfl (Ones.cons rfl Ones.nil))))) rfl rfl rfl) rfl ?_ ?_
 rintro _ _ _ - ⟨rfl, rfl⟩
 refine ⟨(StabL.st (StabA.of rfl (PO.extract rfl rfl) rfl) (StabL.anc rfl (StabL.anc rfl (StabL.anc rfl (StabL.anc rfl (StabL.anc rfl (StabL.anc rfl (StabL.anc rfl (StabL.anc rfl (StabL.anc rfl (StabL.anc rfl (StabL.anc rfl trivial)))))))))))), ?_⟩
 refine WT.f2 ?_
 refine WT.alt rfl (EO.storeL (v := (a96_ r73 vq78_2 vq78_3)) (vl := (l96 r73 vq78_2 vq78_3)) (arr' := (l96 r73 vq78_2 vq78_3)) rfl sz96 rfl rfl (onesOf (Ones.cons rfl (Ones.cons rfl (Ones.cons (RS.one hq78_2) (Ones.cons (OwnS.one hq78_3) Ones.nil))))) rfl rfl rfl) rfl ?_ ?_
 rintro _ _ _ - ⟨rfl, rfl⟩
 refine ⟨(StabL.anc rfl (StabL.anc rfl (StabL.anc rfl (StabL.anc rfl (StabL.anc rfl (StabL.anc rfl (StabL.anc rfl (StabL.anc rfl (StabL.anc rfl (StabL.anc rfl (StabL.anc rfl (StabL.anc rfl trivial)))))))))))), ?_⟩
 refine WT.fin ?_
 refine WQ.f2 ?_
 refine WQ.f1 ?_
 refine WQ.f2 ?_
 refine WQ.f3 ?_
 obtain rfl := Option.some.inj h
 refine WQ.thenJ ?_
 exact ⟨g71, g61, vq78_2, vq78_3, cq78_3, hle76, rfl, (hρ 0), rfl, rfl, hq78_2, hq78_3⟩
 exact WT.no
 exact WT.no
 exact WT.no
 exact WT.no
 exact WT.no
 obtain ⟨x22, x24, x25, x26, x27⟩ := j28
 rintro ρ28 M28 H28 ⟨g21, g23, vx26, vx27, cx27, hle28, rfl, hs28_0, hs28_3, hs28_4, hx26, hx27⟩
 have h0_0 := h0_0.mono hle28
 refine Sr ?_
 refine Pm (pt g0 0) hs28_0 rfl ?_
 refine Pu (a29_ x22) (PO.loadBA (cs := (l29 x22)) 1 ag29 sz29 hs28_3 rfl rfl) rfl ?_
 refine Pu (pt g0 0) (PO.nilCheck rfl) rfl ?_
 refine Pu (pt g0 1) (PO.fieldAddr fo31_1 rfl rfl) rfl ?_
 refine WL.eff (EO.storeL (v := (a29_ x22)) (vl := (l29 x22)) (arr' := [v0_0, (.int .i64 x22.At), (.int .i64 x22.Code), (.string x22.Op), (.int .i64 x22.Where)]) rfl sz29 rfl rfl (onesOf (Ones.cons rfl (Ones.cons rfl (Ones.cons rfl (Ones.cons rfl Ones.nil))))) rfl rfl rfl) rfl ?_
 rintro _ _ _ - ⟨rfl, rfl⟩
 refine Ns ?_
 refine Pu (pt g23 1) (PO.fieldAddr fo96_1 hs28_4 rfl) rfl ?_
 refine Pu (.bool x25) (PO.loadB 2 pl4 rfl rfl rfl) rfl ?_
 refine Pa (.bool x25) rfl rfl ?_
 refine Nt ?_
 refine WC.ret ?_
 refine WQ.f1 ?_
 refine WQ.drop ?_
 refine WQ.f1 ?_
 refine WQ.drop ?_
 refine WQ.f1 ?_
 refine WQ.drop ?_
 exact WQ.returnsF h [[(g0, .cells #[v0_0, (.int .i64 x22.At), (.int .i64 x22.Code), (.string x22.Op), (.int .i64 x22.Where)] 31 (0, 0))]] rfl (results1 rfl rfl) hle28 ⟨rfl, rfl⟩

noncomputable def f_ref05_Cursor_Text (a0 : T_ref05_Cursor) (a1 : Int) : Option ((List Int) × Int × Int × ByteArray × Int) :=
  ((((f_ref02_Read a0.B a0.S (⟨(3 : Int), a1, (0 : Int)⟩ : T_ref02_Ask)).bind fun (r30, r31) => (some (r30, r31.Num, r31.Flag, r31.Text, r31.Row))) : Option (T_ref02_State × Int × Bool × (List Int) × (List Int))).bind fun (x22, x24, x25, x26, x27) => (some (x26, x22.At, x22.Code, x22.Op, x22.Where)))
def f_ref05_Cursor_Text_post (a0 : T_ref05_Cursor) (a1 : Int) (v0_0 : Value) (g0 : Nat) : ((List Int) × Int × Int × ByteArray × Int) → Value → IM → HL → Prop :=
  fun (p_ : ((List Int) × Int × Int × ByteArray × Int)) (v : Value) (M' : IM) (H' : HL) => match p_ with | (r0, r1, r2, r3, r4) => ∃ vz0, vz0 = v ∧ H' = [[(g0, .cells #[v0_0, (.int .i64 r1), (.int .i64 r2), (.string r3), (.int .i64 r4)] 31 (0, 0))]] ∧ RS (Kd.int .u8) M' vz0 r0
theorem f_ref05_Cursor_Text_ok (a0 : T_ref05_Cursor) (a1 : Int) (M : IM) (v0_0 : Value) (g0 : Nat) (h0_0 : RS (Kd.int .u8) M v0_0 a0.B) (res : ((List Int) × Int × Int × ByteArray × Int)) (h : f_ref05_Cursor_Text a0 a1 = some res) :
    Tri Tryz.prog 65 #[(pt g0 0), (.int .i64 a1)] M [[(g0, .cells (l31 a0 v0_0).toArray 31 (0, 0))]] (f_ref05_Cursor_Text_post a0 a1 v0_0 g0 res) := by
 unfold f_ref05_Cursor_Text at h
 refine Tri.enter (fn := Tryz.f65) Tryz.func65 rfl (Nat.le_of_ble_eq_true rfl) ?_
 intro F ρ hρ
 refine Sr ?_
 refine Pa (.slice none 0 0) rfl rfl ?_
 refine Nt ?_
 obtain ⟨j28, hj28, h⟩ := bnd h
 refine WC.joinF (fun (p_ : (T_ref02_State × Int × Bool × (List Int) × (List Int))) ρ' M' H' => match p_ with | (x22, x24, x25, x26, x27) => ∃ g21 g23 vx26 vx27 cx27, M.le M' ∧ [(g0, .cells (l31 a0 v0_0).toArray 31 (0, 0))] :: [(g21, .cells (l29 x22).toArray 29 (0, 0))] :: [(g23, .cells #[(.int .u64 x24), (.bool x25), vx26, vx27] 96 (0, 0))] :: cx27 :: F = H' ∧ ρ' 0 = (pt g0 0) ∧ ρ' 5 = (pt g21 0) ∧ ρ' 6 = (pt g23 0) ∧ RS (Kd.int .u8) M' vx26 x26 ∧ OwnS (Kd.int .i64) M' vx27 x27 cx27) j28 ?_ ?_
 have h328 := h
 have h := hj28
 refine WC.draw [0, 1, 3, 7, 0, 16, 48, 112, 0, 256, 1023, 2047, 4095, 4095, 0, 0, 57343, 131071] (.pure 0 (.pure 1 (.pure 2 (.pure 3 (.pure 4 (.pure 5 (.pure 6 (.pure 7 (.pure 8 (.pure 9 (.alt 10 (.pure 11 (.pure 12 (.pure 13 (.alt 14 (.alt 15 (.alt 16 (.alt 17 .done .none) .none) .none) (.alt 15 (.alt 14 (.alt 16 (.alt 17 .done .none) .none) .none) .none))))) (.alt 14 (.alt 10 (.pure 11 (.pure 12 (.pure 13 (.alt 15 (.alt 16 (.alt 17 .done .none) .none) .none)))) (.alt 15 (.alt 10 (.pure 11 (.pure 12 (.pure 13 (.alt 16 (.alt 17 .done .none) .none)))) .none) .none)) (.alt 15 (.alt 10 (.pure 11 (.pure 12 (.pure 13 (.alt 14 (.alt 16 (.alt 17 .done .none) .none) .none)))) (.alt 14 (.alt 10 (.pure 11 (.pure 12 (.pure 13 (.alt 16 (.alt 17 .done .none) .none)))) .none) .none)) .none))))))))))))) mixed (by kernel_rfl) ?_
 refine Tp (pt g0 0) rfl (PO.move (hρ 0)) rfl ?_
 refine Tp (pt g0 0) rfl (PO.nilCheck rfl) rfl ?_
 refine Tp (pt g0 0) rfl (PO.fieldAddr fo31_0 rfl rfl) rfl ?_
 refine Tp v0_0 rfl (PO.loadB 0 pl22 rfl rfl rfl) rfl ?_
 refine Tp (pt g0 0) rfl (PO.move (hρ 0)) rfl ?_
 refine Tp (pt g0 0) rfl (PO.nilCheck rfl) rfl ?_
 refine Tp (pt g0 1) rfl (PO.fieldAddr fo31_1 rfl rfl) rfl ?_
 refine Tp (a29_ a0.S) rfl (PO.loadBA (cs := (l29 a0.S)) 0 ag29 sz29 rfl rfl rfl) rfl ?_
 refine Tp (.int .i64 a1) rfl (PO.move (hρ 1)) rfl ?_
 refine Tp (.agg #[(.int .i64 3), (.int .i64 a1), (.int .i64 0)]) rfl (PO.buildL (cl := [(.int .i64 3), (.int .i64 a1), (.int .i64 0)]) ze100 fp100 (Parts.cons (congrArg Value.cells (show ev _ _ = (.int .i64 3) from rfl)) (Parts.cons (congrArg Value.cells (show ev _ _ = (.int .i64 a1) from rfl)) Parts.nil)) rfl) rfl ?_
 have hk29 := h
 obtain ⟨⟨r30, r31⟩, hr32, h⟩ := bnd h
 refine WT.alt rfl (EO.call0 co64 (f_ref02_Read_ok a0.B a0.S (⟨(3 : Int), a1, (0 : Int)⟩ : T_ref02_Ask) _ _ h0_0 (r30, r31) hr32) (args3 rfl rfl rfl)) rfl ?_ ?_
 rintro _ M33 _ hle34 ⟨_, ⟨vq36_2, vq36_3, cq36_3, rfl, rfl, hq36_2, hq36_3⟩, rfl⟩
 have h0_0 := h0_0.mono hle34
 refine ⟨(StabL.anc rfl (StabL.anc rfl (StabL.anc rfl (StabL.anc rfl (StabL.anc rfl (StabL.anc rfl (StabL.anc rfl (StabL.anc rfl (StabL.anc rfl (StabL.anc rfl trivial)))))))))), ?_⟩
 refine WT.a1 ?_
 refine Tp (.tuple #[(a29_ r30), (a96_ r31 vq36_2 vq36_3)]) rfl (PO.move rfl) rfl ?_
 refine Tp (a29_ r30) rfl (PO.extract rfl rfl) rfl ?_
 refine Tp (a96_ r31 vq36_2 vq36_3) rfl (PO.extract rfl rfl) rfl ?_
 have hk37 := h
 refine WT.alt rfl (EO.alloc ze29 rfl) rfl ?_ ?_
 rintro _ _ _ - ⟨rfl, g38, rfl, rfl⟩
 refine ⟨(StabL.st (StabA.of rfl (PO.extract rfl rfl) rfl) (StabL.st (StabA.of rfl (PO.extract rfl rfl) rfl) (StabL.st (StabA.of rfl (PO.move rfl) rfl) (StabL.st (StabA.of rfl (PO.buildL (cl := [(.int .i64 3), (.int .i64 a1), (.int .i64 0)]) ze100 fp100 (Parts.cons (congrArg Value.cells (show ev _ _ = (.int .i64 3) from rfl)) (Parts.cons (congrArg Value.cells (show ev _ _ = (.int .i64 a1) from rfl)) Parts.nil)) rfl) rfl) (StabL.st (StabA.of rfl (PO.move (hρ 1)) rfl) (StabL.st (StabA.of rfl (PO.loadBA (cs := (l29 a0.S)) 2 ag29 sz29 rfl rfl rfl) rfl) (StabL.st (StabA.of rfl (PO.fieldAddr fo31_1 rfl rfl) rfl) (StabL.st (StabA.of rfl (PO.nilCheck rfl) rfl) (StabL.st (StabA.of rfl (PO.move (hρ 0)) rfl) (StabL.st (StabA.of rfl (PO.loadB 2 pl22 rfl rfl rfl) rfl) (StabL.st (StabA.of rfl (PO.fieldAddr fo31_0 rfl rfl) rfl) (StabL.st (StabA.of rfl (PO.nilCheck rfl) rfl) (StabL.st (StabA.of rfl (PO.move (hρ 0)) rfl) trivial))))))))))))), ?_⟩
 refine WT.alt rfl (EO.alloc ze96 rfl) rfl ?_ ?_
 rintro _ _ _ - ⟨rfl, g39, rfl, rfl⟩
 refine ⟨(StabL.st (StabA.of rfl (PO.extract rfl rfl) rfl) (StabL.st (StabA.of rfl (PO.extract rfl rfl) rfl) (StabL.st (StabA.of rfl (PO.move rfl) rfl) (StabL.st (StabA.of rfl (PO.buildL (cl := [(.int .i64 3), (.int .i64 a1), (.int .i64 0)]) ze100 fp100 (Parts.cons (congrArg Value.cells (show ev _ _ = (.int .i64 3) from rfl)) (Parts.cons (congrArg Value.cells (show ev _ _ = (.int .i64 a1) from rfl)) Parts.nil)) rfl) rfl) (StabL.st (StabA.of rfl (PO.move (hρ 1)) rfl) (StabL.st (StabA.of rfl (PO.loadBA (cs := (l29 a0.S)) 3 ag29 sz29 rfl rfl rfl) rfl) (StabL.st (StabA.of rfl (PO.fieldAddr fo31_1 rfl rfl) rfl) (StabL.st (StabA.of rfl (PO.nilCheck rfl) rfl) (StabL.st (StabA.of rfl (PO.move (hρ 0)) rfl) (StabL.st (StabA.of rfl (PO.loadB 3 pl22 rfl rfl rfl) rfl) (StabL.st (StabA.of rfl (PO.fieldAddr fo31_0 rfl rfl) rfl) (StabL.st (StabA.of rfl (PO.nilCheck rfl) rfl) (StabL.st (StabA.of rfl (PO.move (hρ 0)) rfl) trivial))))))))))))), ?_⟩
 refine WT.f1 ?_
 refine WT.alt rfl (EO.storeL (v := (a29_ r30)) (vl := (l29 r30)) (arr' := (l29 r30)) rfl sz29 rfl rfl (onesOf (Ones.cons rfl (Ones.cons rfl (Ones.cons rfl (Ones.cons rfl Ones.nil))))) rfl rfl rfl) rfl ?_ ?_
 rintro _ _ _ - ⟨rfl, rfl⟩
 refine ⟨(StabL.st (StabA.of rfl (PO.extract rfl rfl) rfl) (StabL.anc rfl (StabL.anc rfl (StabL.anc rfl (StabL.anc rfl (StabL.anc rfl (StabL.anc rfl (StabL.anc rfl (StabL.anc rfl (StabL.anc rfl (StabL.anc rfl (StabL.anc rfl (StabL.anc rfl trivial))))))))))))), ?_⟩
 refine WT.f1 ?_
 refine WT.alt rfl (EO.storeL (v := (a96_ r31 vq36_2 vq36_3)) (vl := (l96 r31 vq36_2 vq36_3)) (arr' := (l96 r31 vq36_2 vq36_3)) rfl sz96 rfl rfl (onesOf (Ones.cons rfl (Ones.cons rfl (Ones.cons (RS.one hq36_2) (Ones.cons (OwnS.one hq36_3) Ones.nil))))) rfl rfl rfl) rfl ?_ ?_
 rintro _ _ _ - ⟨rfl, rfl⟩
 refine ⟨(StabL.anc rfl (StabL.anc rfl (StabL.anc rfl (StabL.anc rfl (StabL.anc rfl (StabL.anc rfl (StabL.anc rfl (StabL.anc rfl (StabL.anc rfl (StabL.anc rfl (StabL.anc rfl (StabL.anc rfl (StabL.anc rfl trivial))))))))))))), ?_⟩
 refine WT.fin ?_
 refine WQ.f2 ?_
 refine WQ.f1 ?_
 refine WQ.f2 ?_
 refine WQ.f3 ?_
 obtain rfl := Option.some.inj h
 refine WQ.thenJ ?_
 exact ⟨g38, g39, vq36_2, vq36_3, cq36_3, hle34, rfl, (hρ 0), rfl, rfl, hq36_2, hq36_3⟩
 exact WT.no
 exact WT.no
 exact WT.no
 have h := hk37
 refine WT.alt rfl (EO.alloc ze96 rfl) rfl ?_ ?_
 rintro _ _ _ - ⟨rfl, g40, rfl, rfl⟩
 refine ⟨(StabL.st (StabA.of rfl (PO.extract rfl rfl) rfl) (StabL.st (StabA.of rfl (PO.extract rfl rfl) rfl) (StabL.st (StabA.of rfl (PO.move rfl) rfl) (StabL.st (StabA.of rfl (PO.buildL (cl := [(.int .i64 3), (.int .i64 a1), (.int .i64 0)]) ze100 fp100 (Parts.cons (congrArg Value.cells (show ev _ _ = (.int .i64 3) from rfl)) (Parts.cons (congrArg Value.cells (show ev _ _ = (.int .i64 a1) from rfl)) Parts.nil)) rfl) rfl) (StabL.st (StabA.of rfl (PO.move (hρ 1)) rfl) (StabL.st (StabA.of rfl (PO.loadBA (cs := (l29 a0.S)) 2 ag29 sz29 rfl rfl rfl) rfl) (StabL.st (StabA.of rfl (PO.fieldAddr fo31_1 rfl rfl) rfl) (StabL.st (StabA.of rfl (PO.nilCheck rfl) rfl) (StabL.st (StabA.of rfl (PO.move (hρ 0)) rfl) (StabL.st (StabA.of rfl (PO.loadB 2 pl22 rfl rfl rfl) rfl) (StabL.st (StabA.of rfl (PO.fieldAddr fo31_0 rfl rfl) rfl) (StabL.st (StabA.of rfl (PO.nilCheck rfl) rfl) (StabL.st (StabA.of rfl (PO.move (hρ 0)) rfl) trivial))))))))))))), ?_⟩
 refine WT.alt rfl (EO.alloc ze29 rfl) rfl ?_ ?_
 rintro _ _ _ - ⟨rfl, g41, rfl, rfl⟩
 refine ⟨(StabL.st (StabA.of rfl (PO.extract rfl rfl) rfl) (StabL.st (StabA.of rfl (PO.extract rfl rfl) rfl) (StabL.st (StabA.of rfl (PO.move rfl) rfl) (StabL.st (StabA.of rfl (PO.buildL (cl := [(.int .i64 3), (.int .i64 a1), (.int .i64 0)]) ze100 fp100 (Parts.cons (congrArg Value.cells (show ev _ _ = (.int .i64 3) from rfl)) (Parts.cons (congrArg Value.cells (show ev _ _ = (.int .i64 a1) from rfl)) Parts.nil)) rfl) rfl) (StabL.st (StabA.of rfl (PO.move (hρ 1)) rfl) (StabL.st (StabA.of rfl (PO.loadBA (cs := (l29 a0.S)) 3 ag29 sz29 rfl rfl rfl) rfl) (StabL.st (StabA.of rfl (PO.fieldAddr fo31_1 rfl rfl) rfl) (StabL.st (StabA.of rfl (PO.nilCheck rfl) rfl) (StabL.st (StabA.of rfl (PO.move (hρ 0)) rfl) (StabL.st (StabA.of rfl (PO.loadB 3 pl22 rfl rfl rfl) rfl) (StabL.st (StabA.of rfl (PO.fieldAddr fo31_0 rfl rfl) rfl) (StabL.st (StabA.of rfl (PO.nilCheck rfl) rfl) (StabL.st (StabA.of rfl (PO.move (hρ 0)) rfl) trivial))))))))))))), ?_⟩
 refine WT.alt rfl (EO.storeL (v := (a29_ r30)) (vl := (l29 r30)) (arr' := (l29 r30)) rfl sz29 rfl rfl (onesOf (Ones.cons rfl (Ones.cons rfl (Ones.cons rfl (Ones.cons rfl Ones.nil))))) rfl rfl rfl) rfl ?_ ?_
 rintro _ _ _ - ⟨rfl, rfl⟩
 refine ⟨(StabL.st (StabA.of rfl (PO.extract rfl rfl) rfl) (StabL.anc rfl (StabL.anc rfl (StabL.anc rfl (StabL.anc rfl (StabL.anc rfl (StabL.anc rfl (StabL.anc rfl (StabL.anc rfl (StabL.anc rfl (StabL.anc rfl (StabL.anc rfl (StabL.anc rfl trivial))))))))))))), ?_⟩
 refine WT.f1 ?_
 refine WT.alt rfl (EO.storeL (v := (a96_ r31 vq36_2 vq36_3)) (vl := (l96 r31 vq36_2 vq36_3)) (arr' := (l96 r31 vq36_2 vq36_3)) rfl sz96 rfl rfl (onesOf (Ones.cons rfl (Ones.cons rfl (Ones.cons (RS.one hq36_2) (Ones.cons (OwnS.one hq36_3) Ones.nil))))) rfl rfl rfl) rfl ?_ ?_
 rintro _ _ _ - ⟨rfl, rfl⟩
 refine ⟨(StabL.anc rfl (StabL.anc rfl (StabL.anc rfl (StabL.anc rfl (StabL.anc rfl (StabL.anc rfl (StabL.anc rfl (StabL.anc rfl (StabL.anc rfl (StabL.anc rfl (StabL.anc rfl (StabL.anc rfl (StabL.anc rfl trivial))))))))))))), ?_⟩
 refine WT.fin ?_
 refine WQ.f2 ?_
 refine WQ.f1 ?_
 refine WQ.f2 ?_
 refine WQ.f3 ?_
 obtain rfl := Option.some.inj h
 refine WQ.thenJ ?_
 exact ⟨g41, g40, vq36_2, vq36_3, cq36_3, hle34, rfl, (hρ 0), rfl, rfl, hq36_2, hq36_3⟩
 exact WT.no
 exact WT.no
 exact WT.no
 exact WT.no
 have h := hk29
 have hk42 := h
 refine WT.alt rfl (EO.alloc ze29 rfl) rfl ?_ ?_
 rintro _ _ _ - ⟨rfl, g43, rfl, rfl⟩
 refine ⟨(StabL.st (StabA.of rfl (PO.buildL (cl := [(.int .i64 3), (.int .i64 a1), (.int .i64 0)]) ze100 fp100 (Parts.cons (congrArg Value.cells (show ev _ _ = (.int .i64 3) from rfl)) (Parts.cons (congrArg Value.cells (show ev _ _ = (.int .i64 a1) from rfl)) Parts.nil)) rfl) rfl) (StabL.st (StabA.of rfl (PO.move (hρ 1)) rfl) (StabL.st (StabA.of rfl (PO.loadBA (cs := (l29 a0.S)) 1 ag29 sz29 rfl rfl rfl) rfl) (StabL.st (StabA.of rfl (PO.fieldAddr fo31_1 rfl rfl) rfl) (StabL.st (StabA.of rfl (PO.nilCheck rfl) rfl) (StabL.st (StabA.of rfl (PO.move (hρ 0)) rfl) (StabL.st (StabA.of rfl (PO.loadB 1 pl22 rfl rfl rfl) rfl) (StabL.st (StabA.of rfl (PO.fieldAddr fo31_0 rfl rfl) rfl) (StabL.st (StabA.of rfl (PO.nilCheck rfl) rfl) (StabL.st (StabA.of rfl (PO.move (hρ 0)) rfl) trivial)))))))))), ?_⟩
 have hk44 := h
 obtain ⟨⟨r45, r46⟩, hr47, h⟩ := bnd h
 refine WT.alt rfl (EO.call0 co64 (f_ref02_Read_ok a0.B a0.S (⟨(3 : Int), a1, (0 : Int)⟩ : T_ref02_Ask) _ _ h0_0 (r45, r46) hr47) (args3 rfl rfl rfl)) rfl ?_ ?_
 rintro _ M48 _ hle49 ⟨_, ⟨vq51_2, vq51_3, cq51_3, rfl, rfl, hq51_2, hq51_3⟩, rfl⟩
 have h0_0 := h0_0.mono hle49
 refine ⟨(StabL.anc rfl (StabL.anc rfl (StabL.anc rfl (StabL.anc rfl (StabL.anc rfl (StabL.anc rfl (StabL.anc rfl (StabL.anc rfl (StabL.anc rfl (StabL.anc rfl trivial)))))))))), ?_⟩
 refine WT.a1 ?_
 refine Tp (.tuple #[(a29_ r45), (a96_ r46 vq51_2 vq51_3)]) rfl (PO.move rfl) rfl ?_
 refine Tp (a29_ r45) rfl (PO.extract rfl rfl) rfl ?_
 refine Tp (a96_ r46 vq51_2 vq51_3) rfl (PO.extract rfl rfl) rfl ?_
 refine WT.alt rfl (EO.alloc ze96 rfl) rfl ?_ ?_
 rintro _ _ _ - ⟨rfl, g52, rfl, rfl⟩
 refine ⟨(StabL.st (StabA.of rfl (PO.extract rfl rfl) rfl) (StabL.st (StabA.of rfl (PO.extract rfl rfl) rfl) (StabL.st (StabA.of rfl (PO.move rfl) rfl) (StabL.st (StabA.of rfl (PO.buildL (cl := [(.int .i64 3), (.int .i64 a1), (.int .i64 0)]) ze100 fp100 (Parts.cons (congrArg Value.cells (show ev _ _ = (.int .i64 3) from rfl)) (Parts.cons (congrArg Value.cells (show ev _ _ = (.int .i64 a1) from rfl)) Parts.nil)) rfl) rfl) (StabL.st (StabA.of rfl (PO.move (hρ 1)) rfl) (StabL.st (StabA.of rfl (PO.loadBA (cs := (l29 a0.S)) 3 ag29 sz29 rfl rfl rfl) rfl) (StabL.st (StabA.of rfl (PO.fieldAddr fo31_1 rfl rfl) rfl) (StabL.st (StabA.of rfl (PO.nilCheck rfl) rfl) (StabL.st (StabA.of rfl (PO.move (hρ 0)) rfl) (StabL.st (StabA.of rfl (PO.loadB 3 pl22 rfl rfl rfl) rfl) (StabL.st (StabA.of rfl (PO.fieldAddr fo31_0 rfl rfl) rfl) (StabL.st (StabA.of rfl (PO.nilCheck rfl) rfl) (StabL.st (StabA.of rfl (PO.move (hρ 0)) rfl) trivial))))))))))))), ?_⟩
 refine WT.f2 ?_
 refine WT.alt rfl (EO.storeL (v := (a29_ r45)) (vl := (l29 r45)) (arr' := (l29 r45)) rfl sz29 rfl rfl (onesOf (Ones.cons rfl (Ones.cons rfl (Ones.cons rfl (Ones.cons rfl Ones.nil))))) rfl rfl rfl) rfl ?_ ?_
 rintro _ _ _ - ⟨rfl, rfl⟩
 refine ⟨(StabL.st (StabA.of rfl (PO.extract rfl rfl) rfl) (StabL.anc rfl (StabL.anc rfl (StabL.anc rfl (StabL.anc rfl (StabL.anc rfl (StabL.anc rfl (StabL.anc rfl (StabL.anc rfl (StabL.anc rfl (StabL.anc rfl (StabL.anc rfl (StabL.anc rfl trivial))))))))))))), ?_⟩
 refine WT.f1 ?_
 refine WT.alt rfl (EO.storeL (v := (a96_ r46 vq51_2 vq51_3)) (vl := (l96 r46 vq51_2 vq51_3)) (arr' := (l96 r46 vq51_2 vq51_3)) rfl sz96 rfl rfl (onesOf (Ones.cons rfl (Ones.cons rfl (Ones.cons (RS.one hq51_2) (Ones.cons (OwnS.one hq51_3) Ones.nil))))) rfl rfl rfl) rfl ?_ ?_
 rintro _ _ _ - ⟨rfl, rfl⟩
 refine ⟨(StabL.anc rfl (StabL.anc rfl (StabL.anc rfl (StabL.anc rfl (StabL.anc rfl (StabL.anc rfl (StabL.anc rfl (StabL.anc rfl (StabL.anc rfl (StabL.anc rfl (StabL.anc rfl (StabL.anc rfl (StabL.anc rfl trivial))))))))))))), ?_⟩
 refine WT.fin ?_
 refine WQ.f2 ?_
 refine WQ.f1 ?_
 refine WQ.f2 ?_
 refine WQ.f3 ?_
 obtain rfl := Option.some.inj h
 refine WQ.thenJ ?_
 exact ⟨g43, g52, vq51_2, vq51_3, cq51_3, hle49, rfl, (hρ 0), rfl, rfl, hq51_2, hq51_3⟩
 exact WT.no
 exact WT.no
 exact WT.no
 have h := hk44
 refine WT.alt rfl (EO.alloc ze96 rfl) rfl ?_ ?_
 rintro _ _ _ - ⟨rfl, g53, rfl, rfl⟩
 refine ⟨(StabL.st (StabA.of rfl (PO.buildL (cl := [(.int .i64 3), (.int .i64 a1), (.int .i64 0)]) ze100 fp100 (Parts.cons (congrArg Value.cells (show ev _ _ = (.int .i64 3) from rfl)) (Parts.cons (congrArg Value.cells (show ev _ _ = (.int .i64 a1) from rfl)) Parts.nil)) rfl) rfl) (StabL.st (StabA.of rfl (PO.move (hρ 1)) rfl) (StabL.st (StabA.of rfl (PO.loadBA (cs := (l29 a0.S)) 2 ag29 sz29 rfl rfl rfl) rfl) (StabL.st (StabA.of rfl (PO.fieldAddr fo31_1 rfl rfl) rfl) (StabL.st (StabA.of rfl (PO.nilCheck rfl) rfl) (StabL.st (StabA.of rfl (PO.move (hρ 0)) rfl) (StabL.st (StabA.of rfl (PO.loadB 2 pl22 rfl rfl rfl) rfl) (StabL.st (StabA.of rfl (PO.fieldAddr fo31_0 rfl rfl) rfl) (StabL.st (StabA.of rfl (PO.nilCheck rfl) rfl) (StabL.st (StabA.of rfl (PO.move (hρ 0)) rfl) trivial)))))))))), ?_⟩
 obtain ⟨⟨r54, r55⟩, hr56, h⟩ := bnd h
 refine WT.alt rfl (EO.call0 co64 (f_ref02_Read_ok a0.B a0.S (⟨(3 : Int), a1, (0 : Int)⟩ : T_ref02_Ask) _ _ h0_0 (r54, r55) hr56) (args3 rfl rfl rfl)) rfl ?_ ?_
 rintro _ M57 _ hle58 ⟨_, ⟨vq60_2, vq60_3, cq60_3, rfl, rfl, hq60_2, hq60_3⟩, rfl⟩
 have h0_0 := h0_0.mono hle58
 refine ⟨(StabL.anc rfl (StabL.anc rfl (StabL.anc rfl (StabL.anc rfl (StabL.anc rfl (StabL.anc rfl (StabL.anc rfl (StabL.anc rfl (StabL.anc rfl (StabL.anc rfl trivial)))))))))), ?_⟩
 refine WT.a1 ?_
 refine Tp (.tuple #[(a29_ r54), (a96_ r55 vq60_2 vq60_3)]) rfl (PO.move rfl) rfl ?_
 refine Tp (a29_ r54) rfl (PO.extract rfl rfl) rfl ?_
 refine Tp (a96_ r55 vq60_2 vq60_3) rfl (PO.extract rfl rfl) rfl ?_
 refine WT.f2 ?_
 refine WT.alt rfl (EO.storeL (v := (a29_ r54)) (vl := (l29 r54)) (arr' := (l29 r54)) rfl sz29 rfl rfl (onesOf (Ones.cons rfl (Ones.cons rfl (Ones.cons rfl (Ones.cons rfl Ones.nil))))) rfl rfl rfl) rfl ?_ ?_
 rintro _ _ _ - ⟨rfl, rfl⟩
 refine ⟨(StabL.st (StabA.of rfl (PO.extract rfl rfl) rfl) (StabL.anc rfl (StabL.anc rfl (StabL.anc rfl (StabL.anc rfl (StabL.anc rfl (StabL.anc rfl (StabL.anc rfl (StabL.anc rfl (StabL.anc rfl (StabL.anc rfl (StabL.anc rfl (StabL.anc rfl trivial))))))))))))), ?_⟩
 refine WT.f2 ?_
 refine WT.alt rfl (EO.storeL (v := (a96_ r55 vq60_2 vq60_3)) (vl := (l96 r55 vq60_2 vq60_3)) (arr' := (l96 r55 vq60_2 vq60_3)) rfl sz96 rfl rfl (onesOf (Ones.cons rfl (Ones.cons rfl (Ones.cons (RS.one hq60_2) (Ones.cons (OwnS.one hq60_3) Ones.nil))))) rfl rfl rfl) rfl ?_ ?_
 rintro _ _ _ - ⟨rfl, rfl⟩
 refine ⟨(StabL.anc rfl (StabL.anc rfl (StabL.anc rfl (StabL.anc rfl (StabL.anc rfl (StabL.anc rfl (StabL.anc rfl (StabL.anc rfl (StabL.anc rfl (StabL.anc rfl (StabL.anc rfl (StabL.anc rfl (StabL.anc rfl trivial))))))))))))), ?_⟩
 refine WT.fin ?_
 refine WQ.f2 ?_
 refine WQ.f1 ?_
 refine WQ.f2 ?_
 refine WQ.f3 ?_
 obtain rfl := Option.some.inj h
 refine WQ.thenJ ?_
 exact ⟨g43, g53, vq60_2, vq60_3, cq60_3, hle58, rfl, (hρ 0), rfl, rfl, hq60_2, hq60_3⟩
 exact WT.no
 exact WT.no
 exact WT.no
 exact WT.no
 have h := hk42
 refine WT.alt rfl (EO.alloc ze96 rfl) rfl ?_ ?_
 rintro _ _ _ - ⟨rfl, g61, rfl, rfl⟩
 refine ⟨(StabL.st (StabA.of rfl (PO.buildL (cl := [(.int .i64 3), (.int .i64 a1), (.int .i64 0)]) ze100 fp100 (Parts.cons (congrArg Value.cells (show ev _ _ = (.int .i64 3) from rfl)) (Parts.cons (congrArg Value.cells (show ev _ _ = (.int .i64 a1) from rfl)) Parts.nil)) rfl) rfl) (StabL.st (StabA.of rfl (PO.move (hρ 1)) rfl) (StabL.st (StabA.of rfl (PO.loadBA (cs := (l29 a0.S)) 1 ag29 sz29 rfl rfl rfl) rfl) (StabL.st (StabA.of rfl (PO.fieldAddr fo31_1 rfl rfl) rfl) (StabL.st (StabA.of rfl (PO.nilCheck rfl) rfl) (StabL.st (StabA.of rfl (PO.move (hρ 0)) rfl) (StabL.st (StabA.of rfl (PO.loadB 1 pl22 rfl rfl rfl) rfl) (StabL.st (StabA.of rfl (PO.fieldAddr fo31_0 rfl rfl) rfl) (StabL.st (StabA.of rfl (PO.nilCheck rfl) rfl) (StabL.st (StabA.of rfl (PO.move (hρ 0)) rfl) trivial)))))))))), ?_⟩
 have hk62 := h
 obtain ⟨⟨r63, r64⟩, hr65, h⟩ := bnd h
 refine WT.alt rfl (EO.call0 co64 (f_ref02_Read_ok a0.B a0.S (⟨(3 : Int), a1, (0 : Int)⟩ : T_ref02_Ask) _ _ h0_0 (r63, r64) hr65) (args3 rfl rfl rfl)) rfl ?_ ?_
 rintro _ M66 _ hle67 ⟨_, ⟨vq69_2, vq69_3, cq69_3, rfl, rfl, hq69_2, hq69_3⟩, rfl⟩
 have h0_0 := h0_0.mono hle67
 refine ⟨(StabL.anc rfl (StabL.anc rfl (StabL.anc rfl (StabL.anc rfl (StabL.anc rfl (StabL.anc rfl (StabL.anc rfl (StabL.anc rfl (StabL.anc rfl (StabL.anc rfl trivial)))))))))), ?_⟩
 refine WT.a1 ?_
 refine Tp (.tuple #[(a29_ r63), (a96_ r64 vq69_2 vq69_3)]) rfl (PO.move rfl) rfl ?_
 refine Tp (a29_ r63) rfl (PO.extract rfl rfl) rfl ?_
 refine Tp (a96_ r64 vq69_2 vq69_3) rfl (PO.extract rfl rfl) rfl ?_
 refine WT.alt rfl (EO.alloc ze29 rfl) rfl ?_ ?_
 rintro _ _ _ - ⟨rfl, g70, rfl, rfl⟩
 refine ⟨(StabL.st (StabA.of rfl (PO.extract rfl rfl) rfl) (StabL.st (StabA.of rfl (PO.extract rfl rfl) rfl) (StabL.st (StabA.of rfl (PO.move rfl) rfl) (StabL.st (StabA.of rfl (PO.buildL (cl := [(.int .i64 3), (.int .i64 a1), (.int .i64 0)]) ze100 fp100 (Parts.cons (congrArg Value.cells (show ev _ _ = (.int .i64 3) from rfl)) (Parts.cons (congrArg Value.cells (show ev _ _ = (.int .i64 a1) from rfl)) Parts.nil)) rfl) rfl) (StabL.st (StabA.of rfl (PO.move (hρ 1)) rfl) (StabL.st (StabA.of rfl (PO.loadBA (cs := (l29 a0.S)) 3 ag29 sz29 rfl rfl rfl) rfl) (StabL.st (StabA.of rfl (PO.fieldAddr fo31_1 rfl rfl) rfl) (StabL.st (StabA.of rfl (PO.nilCheck rfl) rfl) (StabL.st (StabA.of rfl (PO.move (hρ 0)) rfl) (StabL.st (StabA.of rfl (PO.loadB 3 pl22 rfl rfl rfl) rfl) (StabL.st (StabA.of rfl (PO.fieldAddr fo31_0 rfl rfl) rfl) (StabL.st (StabA.of rfl (PO.nilCheck rfl) rfl) (StabL.st (StabA.of rfl (PO.move (hρ 0)) rfl) trivial))))))))))))), ?_⟩
 refine WT.alt rfl (EO.storeL (v := (a29_ r63)) (vl := (l29 r63)) (arr' := (l29 r63)) rfl sz29 rfl rfl (onesOf (Ones.cons rfl (Ones.cons rfl (Ones.cons rfl (Ones.cons rfl Ones.nil))))) rfl rfl rfl) rfl ?_ ?_
 rintro _ _ _ - ⟨rfl, rfl⟩
 refine ⟨(StabL.st (StabA.of rfl (PO.extract rfl rfl) rfl) (StabL.anc rfl (StabL.anc rfl (StabL.anc rfl (StabL.anc rfl (StabL.anc rfl (StabL.anc rfl (StabL.anc rfl (StabL.anc rfl (StabL.anc rfl (StabL.anc rfl (StabL.anc rfl (StabL.anc rfl trivial))))))))))))), ?_⟩
 refine WT.f2 ?_
 refine WT.alt rfl (EO.storeL (v := (a96_ r64 vq69_2 vq69_3)) (vl := (l96 r64 vq69_2 vq69_3)) (arr' := (l96 r64 vq69_2 vq69_3)) rfl sz96 rfl rfl (onesOf (Ones.cons rfl (Ones.cons rfl (Ones.cons (RS.one hq69_2) (Ones.cons (OwnS.one hq69_3) Ones.nil))))) rfl rfl rfl) rfl ?_ ?_
 rintro _ _ _ - ⟨rfl, rfl⟩
 refine ⟨(StabL.anc rfl (StabL.anc rfl (StabL.anc rfl (StabL.anc rfl (StabL.anc rfl (StabL.anc rfl (StabL.anc rfl (StabL.anc rfl (StabL.anc rfl (StabL.anc rfl (StabL.anc rfl (StabL.anc rfl (StabL.anc rfl trivial))))))))))))), ?_⟩
 refine WT.fin ?_
 refine WQ.f2 ?_
 refine WQ.f1 ?_
 refine WQ.f2 ?_
 refine WQ.f3 ?_
 obtain rfl := Option.some.inj h
 refine WQ.thenJ ?_
 exact ⟨g70, g61, vq69_2, vq69_3, cq69_3, hle67, rfl, (hρ 0), rfl, rfl, hq69_2, hq69_3⟩
 exact WT.no
 exact WT.no
 exact WT.no
 have h := hk62
 refine WT.alt rfl (EO.alloc ze29 rfl) rfl ?_ ?_
 rintro _ _ _ - ⟨rfl, g71, rfl, rfl⟩
 refine ⟨(StabL.st (StabA.of rfl (PO.buildL (cl := [(.int .i64 3), (.int .i64 a1), (.int .i64 0)]) ze100 fp100 (Parts.cons (congrArg Value.cells (show ev _ _ = (.int .i64 3) from rfl)) (Parts.cons (congrArg Value.cells (show ev _ _ = (.int .i64 a1) from rfl)) Parts.nil)) rfl) rfl) (StabL.st (StabA.of rfl (PO.move (hρ 1)) rfl) (StabL.st (StabA.of rfl (PO.loadBA (cs := (l29 a0.S)) 2 ag29 sz29 rfl rfl rfl) rfl) (StabL.st (StabA.of rfl (PO.fieldAddr fo31_1 rfl rfl) rfl) (StabL.st (StabA.of rfl (PO.nilCheck rfl) rfl) (StabL.st (StabA.of rfl (PO.move (hρ 0)) rfl) (StabL.st (StabA.of rfl (PO.loadB 2 pl22 rfl rfl rfl) rfl) (StabL.st (StabA.of rfl (PO.fieldAddr fo31_0 rfl rfl) rfl) (StabL.st (StabA.of rfl (PO.nilCheck rfl) rfl) (StabL.st (StabA.of rfl (PO.move (hρ 0)) rfl) trivial)))))))))), ?_⟩
 obtain ⟨⟨r72, r73⟩, hr74, h⟩ := bnd h
 refine WT.alt rfl (EO.call0 co64 (f_ref02_Read_ok a0.B a0.S (⟨(3 : Int), a1, (0 : Int)⟩ : T_ref02_Ask) _ _ h0_0 (r72, r73) hr74) (args3 rfl rfl rfl)) rfl ?_ ?_
 rintro _ M75 _ hle76 ⟨_, ⟨vq78_2, vq78_3, cq78_3, rfl, rfl, hq78_2, hq78_3⟩, rfl⟩
 have h0_0 := h0_0.mono hle76
 refine ⟨(StabL.anc rfl (StabL.anc rfl (StabL.anc rfl (StabL.anc rfl (StabL.anc rfl (StabL.anc rfl (StabL.anc rfl (StabL.anc rfl (StabL.anc rfl (StabL.anc rfl trivial)))))))))), ?_⟩
 refine WT.a1 ?_
 refine Tp (.tuple #[(a29_ r72), (a96_ r73 vq78_2 vq78_3)]) rfl (PO.move rfl) rfl ?_
 refine Tp (a29_ r72) rfl (PO.extract rfl rfl) rfl ?_
 refine Tp (a96_ r73 vq78_2 vq78_3) rfl (PO.extract rfl rfl) rfl ?_
 refine WT.f1 ?_
 refine WT.alt rfl (EO.storeL (v := (a29_ r72)) (vl := (l29 r72)) (arr' := (l29 r72)) rfl sz29 rfl rfl (onesOf (Ones.cons rfl (Ones.cons rfl (Ones.cons rfl (Ones.cons rfl Ones.nil))))) rfl rfl rfl) rfl ?_ ?_
 rintro _ _ _ - ⟨rfl, rfl⟩
 refine ⟨(StabL.st (StabA.of rfl (PO.extract rfl rfl) rfl) (StabL.anc rfl (StabL.anc rfl (StabL.anc rfl (StabL.anc rfl (StabL.anc rfl (StabL.anc rfl (StabL.anc rfl (StabL.anc rfl (StabL.anc rfl (StabL.anc rfl (StabL.anc rfl (StabL.anc rfl trivial))))))))))))), ?_⟩
 refine WT.f2 ?_
 refine WT.alt rfl (EO.storeL (v := (a96_ r73 vq78_2 vq78_3)) (vl := (l96 r73 vq78_2 vq78_3)) (arr' := (l96 r73 vq78_2 vq78_3)) rfl sz96 rfl rfl (onesOf (Ones.cons rfl (Ones.cons rfl (Ones.cons (RS.one hq78_2) (Ones.cons (OwnS.one hq78_3) Ones.nil))))) rfl rfl rfl) rfl ?_ ?_
 rintro _ _ _ - ⟨rfl, rfl⟩
 refine ⟨(StabL.anc rfl (StabL.anc rfl (StabL.anc rfl (StabL.anc rfl (StabL.anc rfl (StabL.anc rfl (StabL.anc rfl (StabL.anc rfl (StabL.anc rfl (StabL.anc rfl (StabL.anc rfl (StabL.anc rfl (StabL.anc rfl trivial))))))))))))), ?_⟩
 refine WT.fin ?_
 refine WQ.f2 ?_
 refine WQ.f1 ?_
 refine WQ.f2 ?_
 refine WQ.f3 ?_
 obtain rfl := Option.some.inj h
 refine WQ.thenJ ?_
 exact ⟨g71, g61, vq78_2, vq78_3, cq78_3, hle76, rfl, (hρ 0), rfl, rfl, hq78_2, hq78_3⟩
 exact WT.no
 exact WT.no
 exact WT.no
 exact WT.no
 exact WT.no
 obtain ⟨x22, x24, x25, x26, x27⟩ := j28
 rintro ρ28 M28 H28 ⟨g21, g23, vx26, vx27, cx27, hle28, rfl, hs28_0, hs28_5, hs28_6, hx26, hx27⟩
 have h0_0 := h0_0.mono hle28
 refine Sr ?_
 refine Pm (pt g0 0) hs28_0 rfl ?_
 refine Pu (a29_ x22) (PO.loadBA (cs := (l29 x22)) 1 ag29 sz29 hs28_5 rfl rfl) rfl ?_
 refine Pu (pt g0 0) (PO.nilCheck rfl) rfl ?_
 refine Pu (pt g0 1) (PO.fieldAddr fo31_1 rfl rfl) rfl ?_
 refine WL.eff (EO.storeL (v := (a29_ x22)) (vl := (l29 x22)) (arr' := [v0_0, (.int .i64 x22.At), (.int .i64 x22.Code), (.string x22.Op), (.int .i64 x22.Where)]) rfl sz29 rfl rfl (onesOf (Ones.cons rfl (Ones.cons rfl (Ones.cons rfl (Ones.cons rfl Ones.nil))))) rfl rfl rfl) rfl ?_
 rintro _ _ _ - ⟨rfl, rfl⟩
 refine Ns ?_
 refine Pu (pt g23 2) (PO.fieldAddr fo96_2 hs28_6 rfl) rfl ?_
 refine Pu vx26 (PO.loadB 2 pl22 rfl rfl rfl) rfl ?_
 refine Pa vx26 rfl rfl ?_
 refine Nt ?_
 refine WC.ret ?_
 refine WQ.f1 ?_
 refine WQ.drop ?_
 refine WQ.f1 ?_
 refine WQ.drop ?_
 refine WQ.f1 ?_
 refine WQ.drop ?_
 exact WQ.returnsF h [[(g0, .cells #[v0_0, (.int .i64 x22.At), (.int .i64 x22.Code), (.string x22.Op), (.int .i64 x22.Where)] 31 (0, 0))]] rfl (results1 rfl rfl) hle28 ⟨vx26, rfl, rfl, hx26⟩

noncomputable def f_ref05_Cursor_word (a0 : T_ref05_Cursor) (a1 : Bool) : Option (ByteArray × Int × Int × ByteArray × Int) :=
  (if (!a1) = true then (some ((⟨#[]⟩ : ByteArray), a0.S.At, a0.S.Code, a0.S.Op, a0.S.Where)) else ((f_ref05_Cursor_Text a0 (256 : Int)).bind fun (r22, r23, r24, r25, r26) => (some (strOfNums r22, r23, r24, r25, r26))))
def f_ref05_Cursor_word_post (a0 : T_ref05_Cursor) (a1 : Bool) (v0_0 : Value) (g0 : Nat) : (ByteArray × Int × Int × ByteArray × Int) → Value → IM → HL → Prop :=
  fun (p_ : (ByteArray × Int × Int × ByteArray × Int)) (v : Value) (M' : IM) (H' : HL) => match p_ with | (r0, r1, r2, r3, r4) => (.string r0) = v ∧ H' = [[(g0, .cells #[v0_0, (.int .i64 r1), (.int .i64 r2), (.string r3), (.int .i64 r4)] 31 (0, 0))]]
theorem f_ref05_Cursor_word_ok (a0 : T_ref05_Cursor) (a1 : Bool) (M : IM) (v0_0 : Value) (g0 : Nat) (h0_0 : RS (Kd.int .u8) M v0_0 a0.B) (res : (ByteArray × Int × Int × ByteArray × Int)) (h : f_ref05_Cursor_word a0 a1 = some res) :
    Tri Tryz.prog 36 #[(pt g0 0), (.bool a1)] M [[(g0, .cells (l31 a0 v0_0).toArray 31 (0, 0))]] (f_ref05_Cursor_word_post a0 a1 v0_0 g0 res) := by
 unfold f_ref05_Cursor_word at h
 refine Tri.enter (fn := Tryz.f36) Tryz.func36 rfl (Nat.le_of_ble_eq_true rfl) ?_
 intro F ρ hρ
 refine Sr ?_
 refine Pa (.string ⟨#[]⟩) rfl rfl ?_
 refine Nt ?_
 refine WC.seq ?_
 refine Sr ?_
 refine Pm (.bool a1) (hρ 1) rfl ?_
 refine Pu (.bool (!a1)) (PO.not rfl) rfl ?_
 refine Nt ?_
 refine WC.cond (b := !a1) rfl (fun hb21 => ?_) (fun hb21 => ?_)
 have h := ite_t hb21 h
 refine Sr ?_
 refine Pa (.string ⟨#[]⟩) rfl rfl ?_
 refine Nt ?_
 refine WC.ret ?_
 refine WQ.thenR ?_
 exact WQ.returnsF h [[(g0, .cells (l31 a0 v0_0).toArray 31 (0, 0))]] rfl (results1 rfl rfl) (IM.le.refl _) ⟨rfl, rfl⟩
 have h := ite_f hb21 h
 refine WC.skip ?_
 refine WQ.thenC ?_
 refine Sr ?_
 refine Pm (pt g0 0) (hρ 0) rfl ?_
 obtain ⟨⟨r22, r23, r24, r25, r26⟩, hr27, h⟩ := bnd h
 refine WL.eff (EO.call1 co65 (f_ref05_Cursor_Text_ok a0 (256 : Int) _ _ _ h0_0 (r22, r23, r24, r25, r26) hr27) (args2 rfl rfl)) rfl ?_
 rintro _ M28 _ hle29 ⟨_, ⟨vq30, rfl, rfl, hq30⟩, rfl⟩
 have h0_0 := h0_0.mono hle29
 refine WL.a1 ?_
 refine Pu (.string (strOfNums r22)) (PO.b2s (ys := r22) Tryz.underlying22 Tryz.underlying5 Tryz.underlying9 rfl (hq30.src _)) rfl ?_
 refine Pa (.string (strOfNums r22)) rfl rfl ?_
 refine Nt ?_
 refine WC.ret ?_
 exact WQ.returnsF h [[(g0, .cells #[v0_0, (.int .i64 r23), (.int .i64 r24), (.string r25), (.int .i64 r26)] 31 (0, 0))]] rfl (results1 rfl rfl) hle29 ⟨rfl, rfl⟩


end Go.Proofs.YtafkdjljkolehaaGreatDoor.G
