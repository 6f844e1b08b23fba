/- Go functions: what they come to, and that they do. Printed by a program of the session (gen). -/
import Derived.Test.YtjgnbbakamellaaGreatDoorBF
import Derived.Test.YtjgnbbakamellaaGreatDoorB13
import Derived.Test.YtjgnbbakamellaaGreatDoorKConv
import Derived.Test.YtjgnbbakamellaaGreatDoorKEq2
set_option linter.unusedVariables false
set_option linter.unusedSimpArgs false
set_option maxHeartbeats 8000000
set_option maxRecDepth 100000
namespace Go.Proofs.YtjgnbbakamellaaGreatDoor.G
open Go Go.KK

noncomputable def f_ref05_Cursor_Row (a0 : T_ref05_Cursor) (a1 : Int) (a2 : Int) : Option ((List Int) × Int × Int × ByteArray × Int) :=
  ((((f_ref02_Read a0.B a0.S (⟨(4 : Int), a1, a2⟩ : T_ref02_Ask)).bind fun (r30, r31) => (some (r30, r31.Num, r31.Flag, r31.Text, r31.Row))) : Option (T_ref02_State × Int × Bool × (List Int) × (List Int))).bind fun (x22, x24, x25, x26, x27) => (some (x27, x22.At, x22.Code, x22.Op, x22.Where)))
def f_ref05_Cursor_Row_post (a0 : T_ref05_Cursor) (a1 : Int) (a2 : Int) (v0_0 : Value) (g0 : Nat) : ((List Int) × Int × Int × ByteArray × Int) → Value → IM → HL → Prop :=
  fun (p_ : ((List Int) × Int × Int × ByteArray × Int)) (v : Value) (M' : IM) (H' : HL) => match p_ with | (r0, r1, r2, r3, r4) => ∃ vz0 cz0, vz0 = v ∧ H' = [[(g0, .cells #[v0_0, (.int .i64 r1), (.int .i64 r2), (.string r3), (.int .i64 r4)] 69 (0, 0))], cz0] ∧ OwnS (Kd.int .i64) M' vz0 r0 cz0
theorem f_ref05_Cursor_Row_ok (a0 : T_ref05_Cursor) (a1 : Int) (a2 : Int) (M : IM) (v0_0 : Value) (g0 : Nat) (h0_0 : RS (Kd.int .u8) M v0_0 a0.B) (res : ((List Int) × Int × Int × ByteArray × Int)) (h : f_ref05_Cursor_Row a0 a1 a2 = some res) :
    Tri Tryz.prog 36 #[(pt g0 0), (.int .i64 a1), (.int .i64 a2)] M [[(g0, .cells (l69 a0 v0_0).toArray 69 (0, 0))]] (f_ref05_Cursor_Row_post a0 a1 a2 v0_0 g0 res) := by
 unfold f_ref05_Cursor_Row at h
 refine Tri.enter (fn := Tryz.f36) Tryz.func36 rfl (Nat.le_of_ble_eq_true rfl) ?_
 intro F ρ hρ
 refine Sr ?_
 refine Pa (.slice none 0 0) rfl rfl ?_
 refine Nt ?_
 obtain ⟨j28, hj28, h⟩ := bnd h
 refine WC.joinF (fun (p_ : (T_ref02_State × Int × Bool × (List Int) × (List Int))) ρ' M' H' => match p_ with | (x22, x24, x25, x26, x27) => ∃ g21 g23 vx26 vx27 cx27, M.le M' ∧ [(g0, .cells (l69 a0 v0_0).toArray 69 (0, 0))] :: [(g21, .cells (l67 x22).toArray 67 (0, 0))] :: [(g23, .cells #[(.int .u64 x24), (.bool x25), vx26, vx27] 106 (0, 0))] :: cx27 :: F = H' ∧ ρ' 0 = (pt g0 0) ∧ ρ' 7 = (pt g21 0) ∧ ρ' 8 = (pt g23 0) ∧ RS (Kd.int .u8) M' vx26 x26 ∧ OwnS (Kd.int .i64) M' vx27 x27 cx27) j28 ?_ ?_
 have h328 := h
 have h := hj28
 refine WC.draw [0, 1, 3, 7, 0, 16, 48, 112, 0, 0, 768, 2047, 4095, 8191, 8191, 0, 0, 114687, 262143] (.pure 0 (.pure 1 (.pure 2 (.pure 3 (.pure 4 (.pure 5 (.pure 6 (.pure 7 (.pure 8 (.pure 9 (.pure 10 (.alt 11 (.pure 12 (.pure 13 (.pure 14 (.alt 15 (.alt 16 (.alt 17 (.alt 18 .done .none) .none) .none) (.alt 16 (.alt 15 (.alt 17 (.alt 18 .done .none) .none) .none) .none))))) (.alt 15 (.alt 11 (.pure 12 (.pure 13 (.pure 14 (.alt 16 (.alt 17 (.alt 18 .done .none) .none) .none)))) (.alt 16 (.alt 11 (.pure 12 (.pure 13 (.pure 14 (.alt 17 (.alt 18 .done .none) .none)))) .none) .none)) (.alt 16 (.alt 11 (.pure 12 (.pure 13 (.pure 14 (.alt 15 (.alt 17 (.alt 18 .done .none) .none) .none)))) (.alt 15 (.alt 11 (.pure 12 (.pure 13 (.pure 14 (.alt 17 (.alt 18 .done .none) .none)))) .none) .none)) .none)))))))))))))) mixed (by kernel_rfl) ?_
 refine Tp (pt g0 0) rfl (PO.move (hρ 0)) rfl ?_
 refine Tp (pt g0 0) rfl (PO.nilCheck rfl) rfl ?_
 refine Tp (pt g0 0) rfl (PO.fieldAddr fo69_0 rfl rfl) rfl ?_
 refine Tp v0_0 rfl (PO.loadB 0 pl22 rfl rfl rfl) rfl ?_
 refine Tp (pt g0 0) rfl (PO.move (hρ 0)) rfl ?_
 refine Tp (pt g0 0) rfl (PO.nilCheck rfl) rfl ?_
 refine Tp (pt g0 1) rfl (PO.fieldAddr fo69_1 rfl rfl) rfl ?_
 refine Tp (a67_ a0.S) rfl (PO.loadBA (cs := (l67 a0.S)) 0 ag67 sz67 rfl rfl rfl) rfl ?_
 refine Tp (.int .i64 a1) rfl (PO.move (hρ 1)) rfl ?_
 refine Tp (.int .i64 a2) rfl (PO.move (hρ 2)) rfl ?_
 refine Tp (.agg #[(.int .i64 4), (.int .i64 a1), (.int .i64 a2)]) rfl (PO.buildL (cl := [(.int .i64 4), (.int .i64 a1), (.int .i64 a2)]) ze110 fp110 (Parts.cons (congrArg Value.cells (show ev _ _ = (.int .i64 4) from rfl)) (Parts.cons (congrArg Value.cells (show ev _ _ = (.int .i64 a1) from rfl)) (Parts.cons (congrArg Value.cells (show ev _ _ = (.int .i64 a2) from rfl)) Parts.nil))) rfl) rfl ?_
 have hk29 := h
 obtain ⟨⟨r30, r31⟩, hr32, h⟩ := bnd h
 refine WT.alt rfl (EO.call0 co61 (f_ref02_Read_ok a0.B a0.S (⟨(4 : Int), a1, a2⟩ : T_ref02_Ask) _ _ h0_0 (r30, r31) hr32) (args3 rfl rfl rfl)) rfl ?_ ?_
 rintro _ M33 _ hle34 ⟨_, ⟨vq36_2, vq36_3, cq36_3, rfl, rfl, hq36_2, hq36_3⟩, rfl⟩
 have h0_0 := h0_0.mono hle34
 refine ⟨(StabL.anc rfl (StabL.anc rfl (StabL.anc rfl (StabL.anc rfl (StabL.anc rfl (StabL.anc rfl (StabL.anc rfl (StabL.anc rfl (StabL.anc rfl (StabL.anc rfl (StabL.anc rfl trivial))))))))))), ?_⟩
 refine WT.a1 ?_
 refine Tp (.tuple #[(a67_ r30), (a106_ r31 vq36_2 vq36_3)]) rfl (PO.move rfl) rfl ?_
 refine Tp (a67_ r30) rfl (PO.extract rfl rfl) rfl ?_
 refine Tp (a106_ r31 vq36_2 vq36_3) rfl (PO.extract rfl rfl) rfl ?_
 have hk37 := h
 refine WT.alt rfl (EO.alloc ze67 rfl) rfl ?_ ?_
 rintro _ _ _ - ⟨rfl, g38, rfl, rfl⟩
 refine ⟨(StabL.st (StabA.of rfl (PO.extract rfl rfl) rfl) (StabL.st (StabA.of rfl (PO.extract rfl rfl) rfl) (StabL.st (StabA.of rfl (PO.move rfl) rfl) (StabL.st (StabA.of rfl (PO.buildL (cl := [(.int .i64 4), (.int .i64 a1), (.int .i64 a2)]) ze110 fp110 (Parts.cons (congrArg Value.cells (show ev _ _ = (.int .i64 4) from rfl)) (Parts.cons (congrArg Value.cells (show ev _ _ = (.int .i64 a1) from rfl)) (Parts.cons (congrArg Value.cells (show ev _ _ = (.int .i64 a2) from rfl)) Parts.nil))) rfl) rfl) (StabL.st (StabA.of rfl (PO.move (hρ 2)) rfl) (StabL.st (StabA.of rfl (PO.move (hρ 1)) rfl) (StabL.st (StabA.of rfl (PO.loadBA (cs := (l67 a0.S)) 2 ag67 sz67 rfl rfl rfl) rfl) (StabL.st (StabA.of rfl (PO.fieldAddr fo69_1 rfl rfl) rfl) (StabL.st (StabA.of rfl (PO.nilCheck rfl) rfl) (StabL.st (StabA.of rfl (PO.move (hρ 0)) rfl) (StabL.st (StabA.of rfl (PO.loadB 2 pl22 rfl rfl rfl) rfl) (StabL.st (StabA.of rfl (PO.fieldAddr fo69_0 rfl rfl) rfl) (StabL.st (StabA.of rfl (PO.nilCheck rfl) rfl) (StabL.st (StabA.of rfl (PO.move (hρ 0)) rfl) trivial)))))))))))))), ?_⟩
 refine WT.alt rfl (EO.alloc ze106 rfl) rfl ?_ ?_
 rintro _ _ _ - ⟨rfl, g39, rfl, rfl⟩
 refine ⟨(StabL.st (StabA.of rfl (PO.extract rfl rfl) rfl) (StabL.st (StabA.of rfl (PO.extract rfl rfl) rfl) (StabL.st (StabA.of rfl (PO.move rfl) rfl) (StabL.st (StabA.of rfl (PO.buildL (cl := [(.int .i64 4), (.int .i64 a1), (.int .i64 a2)]) ze110 fp110 (Parts.cons (congrArg Value.cells (show ev _ _ = (.int .i64 4) from rfl)) (Parts.cons (congrArg Value.cells (show ev _ _ = (.int .i64 a1) from rfl)) (Parts.cons (congrArg Value.cells (show ev _ _ = (.int .i64 a2) from rfl)) Parts.nil))) rfl) rfl) (StabL.st (StabA.of rfl (PO.move (hρ 2)) rfl) (StabL.st (StabA.of rfl (PO.move (hρ 1)) rfl) (StabL.st (StabA.of rfl (PO.loadBA (cs := (l67 a0.S)) 3 ag67 sz67 rfl rfl rfl) rfl) (StabL.st (StabA.of rfl (PO.fieldAddr fo69_1 rfl rfl) rfl) (StabL.st (StabA.of rfl (PO.nilCheck rfl) rfl) (StabL.st (StabA.of rfl (PO.move (hρ 0)) rfl) (StabL.st (StabA.of rfl (PO.loadB 3 pl22 rfl rfl rfl) rfl) (StabL.st (StabA.of rfl (PO.fieldAddr fo69_0 rfl rfl) rfl) (StabL.st (StabA.of rfl (PO.nilCheck rfl) rfl) (StabL.st (StabA.of rfl (PO.move (hρ 0)) rfl) trivial)))))))))))))), ?_⟩
 refine WT.f1 ?_
 refine WT.alt rfl (EO.storeL (v := (a67_ r30)) (vl := (l67 r30)) (arr' := (l67 r30)) rfl sz67 rfl rfl (onesOf (Ones.cons rfl (Ones.cons rfl (Ones.cons rfl (Ones.cons rfl Ones.nil))))) rfl rfl rfl) rfl ?_ ?_
 rintro _ _ _ - ⟨rfl, rfl⟩
 refine ⟨(StabL.st (StabA.of rfl (PO.extract rfl rfl) rfl) (StabL.anc rfl (StabL.anc rfl (StabL.anc rfl (StabL.anc rfl (StabL.anc rfl (StabL.anc rfl (StabL.anc rfl (StabL.anc rfl (StabL.anc rfl (StabL.anc rfl (StabL.anc rfl (StabL.anc rfl (StabL.anc rfl trivial)))))))))))))), ?_⟩
 refine WT.f1 ?_
 refine WT.alt rfl (EO.storeL (v := (a106_ r31 vq36_2 vq36_3)) (vl := (l106 r31 vq36_2 vq36_3)) (arr' := (l106 r31 vq36_2 vq36_3)) rfl sz106 rfl rfl (onesOf (Ones.cons rfl (Ones.cons rfl (Ones.cons (RS.one hq36_2) (Ones.cons (OwnS.one hq36_3) Ones.nil))))) rfl rfl rfl) rfl ?_ ?_
 rintro _ _ _ - ⟨rfl, rfl⟩
 refine ⟨(StabL.anc rfl (StabL.anc rfl (StabL.anc rfl (StabL.anc rfl (StabL.anc rfl (StabL.anc rfl (StabL.anc rfl (StabL.anc rfl (StabL.anc rfl (StabL.anc rfl (StabL.anc rfl (StabL.anc rfl (StabL.anc rfl (StabL.anc rfl trivial)))))))))))))), ?_⟩
 refine WT.fin ?_
 refine WQ.f2 ?_
 refine WQ.f1 ?_
 refine WQ.f2 ?_
 refine WQ.f3 ?_
 obtain rfl := Option.some.inj h
 refine WQ.thenJ ?_
 exact ⟨g38, g39, vq36_2, vq36_3, cq36_3, hle34, rfl, (hρ 0), rfl, rfl, hq36_2, hq36_3⟩
 exact WT.no
 exact WT.no
 exact WT.no
 have h := hk37
 refine WT.alt rfl (EO.alloc ze106 rfl) rfl ?_ ?_
 rintro _ _ _ - ⟨rfl, g40, rfl, rfl⟩
 refine ⟨(StabL.st (StabA.of rfl (PO.extract rfl rfl) rfl) (StabL.st (StabA.of rfl (PO.extract rfl rfl) rfl) (StabL.st (StabA.of rfl (PO.move rfl) rfl) (StabL.st (StabA.of rfl (PO.buildL (cl := [(.int .i64 4), (.int .i64 a1), (.int .i64 a2)]) ze110 fp110 (Parts.cons (congrArg Value.cells (show ev _ _ = (.int .i64 4) from rfl)) (Parts.cons (congrArg Value.cells (show ev _ _ = (.int .i64 a1) from rfl)) (Parts.cons (congrArg Value.cells (show ev _ _ = (.int .i64 a2) from rfl)) Parts.nil))) rfl) rfl) (StabL.st (StabA.of rfl (PO.move (hρ 2)) rfl) (StabL.st (StabA.of rfl (PO.move (hρ 1)) rfl) (StabL.st (StabA.of rfl (PO.loadBA (cs := (l67 a0.S)) 2 ag67 sz67 rfl rfl rfl) rfl) (StabL.st (StabA.of rfl (PO.fieldAddr fo69_1 rfl rfl) rfl) (StabL.st (StabA.of rfl (PO.nilCheck rfl) rfl) (StabL.st (StabA.of rfl (PO.move (hρ 0)) rfl) (StabL.st (StabA.of rfl (PO.loadB 2 pl22 rfl rfl rfl) rfl) (StabL.st (StabA.of rfl (PO.fieldAddr fo69_0 rfl rfl) rfl) (StabL.st (StabA.of rfl (PO.nilCheck rfl) rfl) (StabL.st (StabA.of rfl (PO.move (hρ 0)) rfl) trivial)))))))))))))), ?_⟩
 refine WT.alt rfl (EO.alloc ze67 rfl) rfl ?_ ?_
 rintro _ _ _ - ⟨rfl, g41, rfl, rfl⟩
 refine ⟨(StabL.st (StabA.of rfl (PO.extract rfl rfl) rfl) (StabL.st (StabA.of rfl (PO.extract rfl rfl) rfl) (StabL.st (StabA.of rfl (PO.move rfl) rfl) (StabL.st (StabA.of rfl (PO.buildL (cl := [(.int .i64 4), (.int .i64 a1), (.int .i64 a2)]) ze110 fp110 (Parts.cons (congrArg Value.cells (show ev _ _ = (.int .i64 4) from rfl)) (Parts.cons (congrArg Value.cells (show ev _ _ = (.int .i64 a1) from rfl)) (Parts.cons (congrArg Value.cells (show ev _ _ = (.int .i64 a2) from rfl)) Parts.nil))) rfl) rfl) (StabL.st (StabA.of rfl (PO.move (hρ 2)) rfl) (StabL.st (StabA.of rfl (PO.move (hρ 1)) rfl) (StabL.st (StabA.of rfl (PO.loadBA (cs := (l67 a0.S)) 3 ag67 sz67 rfl rfl rfl) rfl) (StabL.st (StabA.of rfl (PO.fieldAddr fo69_1 rfl rfl) rfl) (StabL.st (StabA.of rfl (PO.nilCheck rfl) rfl) (StabL.st (StabA.of rfl (PO.move (hρ 0)) rfl) (StabL.st (StabA.of rfl (PO.loadB 3 pl22 rfl rfl rfl) rfl) (StabL.st (StabA.of rfl (PO.fieldAddr fo69_0 rfl rfl) rfl) (StabL.st (StabA.of rfl (PO.nilCheck rfl) rfl) (StabL.st (StabA.of rfl (PO.move (hρ 0)) rfl) trivial)))))))))))))), ?_⟩
 refine WT.alt rfl (EO.storeL (v := (a67_ r30)) (vl := (l67 r30)) (arr' := (l67 r30)) rfl sz67 rfl rfl (onesOf (Ones.cons rfl (Ones.cons rfl (Ones.cons rfl (Ones.cons rfl Ones.nil))))) rfl rfl rfl) rfl ?_ ?_
 rintro _ _ _ - ⟨rfl, rfl⟩
 refine ⟨(StabL.st (StabA.of rfl (PO.extract rfl rfl) rfl) (StabL.anc rfl (StabL.anc rfl (StabL.anc rfl (StabL.anc rfl (StabL.anc rfl (StabL.anc rfl (StabL.anc rfl (StabL.anc rfl (StabL.anc rfl (StabL.anc rfl (StabL.anc rfl (StabL.anc rfl (StabL.anc rfl trivial)))))))))))))), ?_⟩
 refine WT.f1 ?_
 refine WT.alt rfl (EO.storeL (v := (a106_ r31 vq36_2 vq36_3)) (vl := (l106 r31 vq36_2 vq36_3)) (arr' := (l106 r31 vq36_2 vq36_3)) rfl sz106 rfl rfl (onesOf (Ones.cons rfl (Ones.cons rfl (Ones.cons (RS.one hq36_2) (Ones.cons (OwnS.one hq36_3) Ones.nil))))) rfl rfl rfl) rfl ?_ ?_
 rintro _ _ _ - ⟨rfl, rfl⟩
 refine ⟨(StabL.anc rfl (StabL.anc rfl (StabL.anc rfl (StabL.anc rfl (StabL.anc rfl (StabL.anc rfl (StabL.anc rfl (StabL.anc rfl (StabL.anc rfl (StabL.anc rfl (StabL.anc rfl (StabL.anc rfl (StabL.anc rfl (StabL.anc rfl trivial)))))))))))))), ?_⟩
 refine WT.fin ?_
 refine WQ.f2 ?_
 refine WQ.f1 ?_
 refine WQ.f2 ?_
 refine WQ.f3 ?_
 obtain rfl := Option.some.inj h
 refine WQ.thenJ ?_
 exact ⟨g41, g40, vq36_2, vq36_3, cq36_3, hle34, rfl, (hρ 0), rfl, rfl, hq36_2, hq36_3⟩
 exact WT.no
 exact WT.no
 exact WT.no
 exact WT.no
 have h := hk29
 have hk42 := h
 refine WT.alt rfl (EO.alloc ze67 rfl) rfl ?_ ?_
 rintro _ _ _ - ⟨rfl, g43, rfl, rfl⟩
 refine ⟨(StabL.st (StabA.of rfl (PO.buildL (cl := [(.int .i64 4), (.int .i64 a1), (.int .i64 a2)]) ze110 fp110 (Parts.cons (congrArg Value.cells (show ev _ _ = (.int .i64 4) from rfl)) (Parts.cons (congrArg Value.cells (show ev _ _ = (.int .i64 a1) from rfl)) (Parts.cons (congrArg Value.cells (show ev _ _ = (.int .i64 a2) from rfl)) Parts.nil))) rfl) rfl) (StabL.st (StabA.of rfl (PO.move (hρ 2)) rfl) (StabL.st (StabA.of rfl (PO.move (hρ 1)) rfl) (StabL.st (StabA.of rfl (PO.loadBA (cs := (l67 a0.S)) 1 ag67 sz67 rfl rfl rfl) rfl) (StabL.st (StabA.of rfl (PO.fieldAddr fo69_1 rfl rfl) rfl) (StabL.st (StabA.of rfl (PO.nilCheck rfl) rfl) (StabL.st (StabA.of rfl (PO.move (hρ 0)) rfl) (StabL.st (StabA.of rfl (PO.loadB 1 pl22 rfl rfl rfl) rfl) (StabL.st (StabA.of rfl (PO.fieldAddr fo69_0 rfl rfl) rfl) (StabL.st (StabA.of rfl (PO.nilCheck rfl) rfl) (StabL.st (StabA.of rfl (PO.move (hρ 0)) rfl) trivial))))))))))), ?_⟩
 have hk44 := h
 obtain ⟨⟨r45, r46⟩, hr47, h⟩ := bnd h
 refine WT.alt rfl (EO.call0 co61 (f_ref02_Read_ok a0.B a0.S (⟨(4 : Int), a1, a2⟩ : T_ref02_Ask) _ _ h0_0 (r45, r46) hr47) (args3 rfl rfl rfl)) rfl ?_ ?_
 rintro _ M48 _ hle49 ⟨_, ⟨vq51_2, vq51_3, cq51_3, rfl, rfl, hq51_2, hq51_3⟩, rfl⟩
 have h0_0 := h0_0.mono hle49
 refine ⟨(StabL.anc rfl (StabL.anc rfl (StabL.anc rfl (StabL.anc rfl (StabL.anc rfl (StabL.anc rfl (StabL.anc rfl (StabL.anc rfl (StabL.anc rfl (StabL.anc rfl (StabL.anc rfl trivial))))))))))), ?_⟩
 refine WT.a1 ?_
 refine Tp (.tuple #[(a67_ r45), (a106_ r46 vq51_2 vq51_3)]) rfl (PO.move rfl) rfl ?_
 refine Tp (a67_ r45) rfl (PO.extract rfl rfl) rfl ?_
 refine Tp (a106_ r46 vq51_2 vq51_3) rfl (PO.extract rfl rfl) rfl ?_
 refine WT.alt rfl (EO.alloc ze106 rfl) rfl ?_ ?_
 rintro _ _ _ - ⟨rfl, g52, rfl, rfl⟩
 refine ⟨(StabL.st (StabA.of rfl (PO.extract rfl rfl) rfl) (StabL.st (StabA.of rfl (PO.extract rfl rfl) rfl) (StabL.st (StabA.of rfl (PO.move rfl) rfl) (StabL.st (StabA.of rfl (PO.buildL (cl := [(.int .i64 4), (.int .i64 a1), (.int .i64 a2)]) ze110 fp110 (Parts.cons (congrArg Value.cells (show ev _ _ = (.int .i64 4) from rfl)) (Parts.cons (congrArg Value.cells (show ev _ _ = (.int .i64 a1) from rfl)) (Parts.cons (congrArg Value.cells (show ev _ _ = (.int .i64 a2) from rfl)) Parts.nil))) rfl) rfl) (StabL.st (StabA.of rfl (PO.move (hρ 2)) rfl) (StabL.st (StabA.of rfl (PO.move (hρ 1)) rfl) (StabL.st (StabA.of rfl (PO.loadBA (cs := (l67 a0.S)) 3 ag67 sz67 rfl rfl rfl) rfl) (StabL.st (StabA.of rfl (PO.fieldAddr fo69_1 rfl rfl) rfl) (StabL.st (StabA.of rfl (PO.nilCheck rfl) rfl) (StabL.st (StabA.of rfl (PO.move (hρ 0)) rfl) (StabL.st (StabA.of rfl (PO.loadB 3 pl22 rfl rfl rfl) rfl) (StabL.st (StabA.of rfl (PO.fieldAddr fo69_0 rfl rfl) rfl) (StabL.st (StabA.of rfl (PO.nilCheck rfl) rfl) (StabL.st (StabA.of rfl (PO.move (hρ 0)) rfl) trivial)))))))))))))), ?_⟩
 refine WT.f2 ?_
 refine WT.alt rfl (EO.storeL (v := (a67_ r45)) (vl := (l67 r45)) (arr' := (l67 r45)) rfl sz67 rfl rfl (onesOf (Ones.cons rfl (Ones.cons rfl (Ones.cons rfl (Ones.cons rfl Ones.nil))))) rfl rfl rfl) rfl ?_ ?_
 rintro _ _ _ - ⟨rfl, rfl⟩
 refine ⟨(StabL.st (StabA.of rfl (PO.extract rfl rfl) rfl) (StabL.anc rfl (StabL.anc rfl (StabL.anc rfl (StabL.anc rfl (StabL.anc rfl (StabL.anc rfl (StabL.anc rfl (StabL.anc rfl (StabL.anc rfl (StabL.anc rfl (StabL.anc rfl (StabL.anc rfl (StabL.anc rfl trivial)))))))))))))), ?_⟩
 refine WT.f1 ?_
 refine WT.alt rfl (EO.storeL (v := (a106_ r46 vq51_2 vq51_3)) (vl := (l106 r46 vq51_2 vq51_3)) (arr' := (l106 r46 vq51_2 vq51_3)) rfl sz106 rfl rfl (onesOf (Ones.cons rfl (Ones.cons rfl (Ones.cons (RS.one hq51_2) (Ones.cons (OwnS.one hq51_3) Ones.nil))))) rfl rfl rfl) rfl ?_ ?_
 rintro _ _ _ - ⟨rfl, rfl⟩
 refine ⟨(StabL.anc rfl (StabL.anc rfl (StabL.anc rfl (StabL.anc rfl (StabL.anc rfl (StabL.anc rfl (StabL.anc rfl (StabL.anc rfl (StabL.anc rfl (StabL.anc rfl (StabL.anc rfl (StabL.anc rfl (StabL.anc rfl (StabL.anc rfl trivial)))))))))))))), ?_⟩
 refine WT.fin ?_
 refine WQ.f2 ?_
 refine WQ.f1 ?_
 refine WQ.f2 ?_
 refine WQ.f3 ?_
 obtain rfl := Option.some.inj h
 refine WQ.thenJ ?_
 exact ⟨g43, g52, vq51_2, vq51_3, cq51_3, hle49, rfl, (hρ 0), rfl, rfl, hq51_2, hq51_3⟩
 exact WT.no
 exact WT.no
 exact WT.no
 have h := hk44
 refine WT.alt rfl (EO.alloc ze106 rfl) rfl ?_ ?_
 rintro _ _ _ - ⟨rfl, g53, rfl, rfl⟩
 refine ⟨(StabL.st (StabA.of rfl (PO.buildL (cl := [(.int .i64 4), (.int .i64 a1), (.int .i64 a2)]) ze110 fp110 (Parts.cons (congrArg Value.cells (show ev _ _ = (.int .i64 4) from rfl)) (Parts.cons (congrArg Value.cells (show ev _ _ = (.int .i64 a1) from rfl)) (Parts.cons (congrArg Value.cells (show ev _ _ = (.int .i64 a2) from rfl)) Parts.nil))) rfl) rfl) (StabL.st (StabA.of rfl (PO.move (hρ 2)) rfl) (StabL.st (StabA.of rfl (PO.move (hρ 1)) rfl) (StabL.st (StabA.of rfl (PO.loadBA (cs := (l67 a0.S)) 2 ag67 sz67 rfl rfl rfl) rfl) (StabL.st (StabA.of rfl (PO.fieldAddr fo69_1 rfl rfl) rfl) (StabL.st (StabA.of rfl (PO.nilCheck rfl) rfl) (StabL.st (StabA.of rfl (PO.move (hρ 0)) rfl) (StabL.st (StabA.of rfl (PO.loadB 2 pl22 rfl rfl rfl) rfl) (StabL.st (StabA.of rfl (PO.fieldAddr fo69_0 rfl rfl) rfl) (StabL.st (StabA.of rfl (PO.nilCheck rfl) rfl) (StabL.st (StabA.of rfl (PO.move (hρ 0)) rfl) trivial))))))))))), ?_⟩
 obtain ⟨⟨r54, r55⟩, hr56, h⟩ := bnd h
 refine WT.alt rfl (EO.call0 co61 (f_ref02_Read_ok a0.B a0.S (⟨(4 : Int), a1, a2⟩ : T_ref02_Ask) _ _ h0_0 (r54, r55) hr56) (args3 rfl rfl rfl)) rfl ?_ ?_
 rintro _ M57 _ hle58 ⟨_, ⟨vq60_2, vq60_3, cq60_3, rfl, rfl, hq60_2, hq60_3⟩, rfl⟩
 have h0_0 := h0_0.mono hle58
 refine ⟨(StabL.anc rfl (StabL.anc rfl (StabL.anc rfl (StabL.anc rfl (StabL.anc rfl (StabL.anc rfl (StabL.anc rfl (StabL.anc rfl (StabL.anc rfl (StabL.anc rfl (StabL.anc rfl trivial))))))))))), ?_⟩
 refine WT.a1 ?_
 refine Tp (.tuple #[(a67_ r54), (a106_ r55 vq60_2 vq60_3)]) rfl (PO.move rfl) rfl ?_
 refine Tp (a67_ r54) rfl (PO.extract rfl rfl) rfl ?_
 refine Tp (a106_ r55 vq60_2 vq60_3) rfl (PO.extract rfl rfl) rfl ?_
 refine WT.f2 ?_
 refine WT.alt rfl (EO.storeL (v := (a67_ r54)) (vl := (l67 r54)) (arr' := (l67 r54)) rfl sz67 rfl rfl (onesOf (Ones.cons rfl (Ones.cons rfl (Ones.cons rfl (Ones.cons rfl Ones.nil))))) rfl rfl rfl) rfl ?_ ?_
 rintro _ _ _ - ⟨rfl, rfl⟩
 refine ⟨(StabL.st (StabA.of rfl (PO.extract rfl rfl) rfl) (StabL.anc rfl (StabL.anc rfl (StabL.anc rfl (StabL.anc rfl (StabL.anc rfl (StabL.anc rfl (StabL.anc rfl (StabL.anc rfl (StabL.anc rfl (StabL.anc rfl (StabL.anc rfl (StabL.anc rfl (StabL.anc rfl trivial)))))))))))))), ?_⟩
 refine WT.f2 ?_
 refine WT.alt rfl (EO.storeL (v := (a106_ r55 vq60_2 vq60_3)) (vl := (l106 r55 vq60_2 vq60_3)) (arr' := (l106 r55 vq60_2 vq60_3)) rfl sz106 rfl rfl (onesOf (Ones.cons rfl (Ones.cons rfl (Ones.cons (RS.one hq60_2) (Ones.cons (OwnS.one hq60_3) Ones.nil))))) rfl rfl rfl) rfl ?_ ?_
 rintro _ _ _ - ⟨rfl, rfl⟩
 refine ⟨(StabL.anc rfl (StabL.anc rfl (StabL.anc rfl (StabL.anc rfl (StabL.anc rfl (StabL.anc rfl (StabL.anc rfl (StabL.anc rfl (StabL.anc rfl (StabL.anc rfl (StabL.anc rfl (StabL.anc rfl (StabL.anc rfl (StabL.anc rfl trivial)))))))))))))), ?_⟩
 refine WT.fin ?_
 refine WQ.f2 ?_
 refine WQ.f1 ?_
 refine WQ.f2 ?_
 refine WQ.f3 ?_
 obtain rfl := Option.some.inj h
 refine WQ.thenJ ?_
 exact ⟨g43, g53, vq60_2, vq60_3, cq60_3, hle58, rfl, (hρ 0), rfl, rfl, hq60_2, hq60_3⟩
 exact WT.no
 exact WT.no
 exact WT.no
 exact WT.no
 have h := hk42
 refine WT.alt rfl (EO.alloc ze106 rfl) rfl ?_ ?_
 rintro _ _ _ - ⟨rfl, g61, rfl, rfl⟩
 refine ⟨(StabL.st (StabA.of rfl (PO.buildL (cl := [(.int .i64 4), (.int .i64 a1), (.int .i64 a2)]) ze110 fp110 (Parts.cons (congrArg Value.cells (show ev _ _ = (.int .i64 4) from rfl)) (Parts.cons (congrArg Value.cells (show ev _ _ = (.int .i64 a1) from rfl)) (Parts.cons (congrArg Value.cells (show ev _ _ = (.int .i64 a2) from rfl)) Parts.nil))) rfl) rfl) (StabL.st (StabA.of rfl (PO.move (hρ 2)) rfl) (StabL.st (StabA.of rfl (PO.move (hρ 1)) rfl) (StabL.st (StabA.of rfl (PO.loadBA (cs := (l67 a0.S)) 1 ag67 sz67 rfl rfl rfl) rfl) (StabL.st (StabA.of rfl (PO.fieldAddr fo69_1 rfl rfl) rfl) (StabL.st (StabA.of rfl (PO.nilCheck rfl) rfl) (StabL.st (StabA.of rfl (PO.move (hρ 0)) rfl) (StabL.st (StabA.of rfl (PO.loadB 1 pl22 rfl rfl rfl) rfl) (StabL.st (StabA.of rfl (PO.fieldAddr fo69_0 rfl rfl) rfl) (StabL.st (StabA.of rfl (PO.nilCheck rfl) rfl) (StabL.st (StabA.of rfl (PO.move (hρ 0)) rfl) trivial))))))))))), ?_⟩
 have hk62 := h
 obtain ⟨⟨r63, r64⟩, hr65, h⟩ := bnd h
 refine WT.alt rfl (EO.call0 co61 (f_ref02_Read_ok a0.B a0.S (⟨(4 : Int), a1, a2⟩ : T_ref02_Ask) _ _ h0_0 (r63, r64) hr65) (args3 rfl rfl rfl)) rfl ?_ ?_
 rintro _ M66 _ hle67 ⟨_, ⟨vq69_2, vq69_3, cq69_3, rfl, rfl, hq69_2, hq69_3⟩, rfl⟩
 have h0_0 := h0_0.mono hle67
 refine ⟨(StabL.anc rfl (StabL.anc rfl (StabL.anc rfl (StabL.anc rfl (StabL.anc rfl (StabL.anc rfl (StabL.anc rfl (StabL.anc rfl (StabL.anc rfl (StabL.anc rfl (StabL.anc rfl trivial))))))))))), ?_⟩
 refine WT.a1 ?_
 refine Tp (.tuple #[(a67_ r63), (a106_ r64 vq69_2 vq69_3)]) rfl (PO.move rfl) rfl ?_
 refine Tp (a67_ r63) rfl (PO.extract rfl rfl) rfl ?_
 refine Tp (a106_ r64 vq69_2 vq69_3) rfl (PO.extract rfl rfl) rfl ?_
 refine WT.alt rfl (EO.alloc ze67 rfl) rfl ?_ ?_
 rintro _ _ _ - ⟨rfl, g70, rfl, rfl⟩
 refine ⟨(StabL.st (StabA.of rfl (PO.extract rfl rfl) rfl) (StabL.st (StabA.of rfl (PO.extract rfl rfl) rfl) (StabL.st (StabA.of rfl (PO.move rfl) rfl) (StabL.st (StabA.of rfl (PO.buildL (cl := [(.int .i64 4), (.int .i64 a1), (.int .i64 a2)]) ze110 fp110 (Parts.cons (congrArg Value.cells (show ev _ _ = (.int .i64 4) from rfl)) (Parts.cons (congrArg Value.cells (show ev _ _ = (.int .i64 a1) from rfl)) (Parts.cons (congrArg Value.cells (show ev _ _ = (.int .i64 a2) from rfl)) Parts.nil))) rfl) rfl) (StabL.st (StabA.of rfl (PO.move (hρ 2)) rfl) (StabL.st (StabA.of rfl (PO.move (hρ 1)) rfl) (StabL.st (StabA.of rfl (PO.loadBA (cs := (l67 a0.S)) 3 ag67 sz67 rfl rfl rfl) rfl) (StabL.st (StabA.of rfl (PO.fieldAddr fo69_1 rfl rfl) rfl) (StabL.st (StabA.of rfl (PO.nilCheck rfl) rfl) (StabL.st (StabA.of rfl (PO.move (hρ 0)) rfl) (StabL.st (StabA.of rfl (PO.loadB 3 pl22 rfl rfl rfl) rfl) (StabL.st (StabA.of rfl (PO.fieldAddr fo69_0 rfl rfl) rfl) (StabL.st (StabA.of rfl (PO.nilCheck rfl) rfl) (StabL.st (StabA.of rfl (PO.move (hρ 0)) rfl) trivial)))))))))))))), ?_⟩
 refine WT.alt rfl (EO.storeL (v := (a67_ r63)) (vl := (l67 r63)) (arr' := (l67 r63)) rfl sz67 rfl rfl (onesOf (Ones.cons rfl (Ones.cons rfl (Ones.cons rfl (Ones.cons rfl Ones.nil))))) rfl rfl rfl) rfl ?_ ?_
 rintro _ _ _ - ⟨rfl, rfl⟩
 refine ⟨(StabL.st (StabA.of rfl (PO.extract rfl rfl) rfl) (StabL.anc rfl (StabL.anc rfl (StabL.anc rfl (StabL.anc rfl (StabL.anc rfl (StabL.anc rfl (StabL.anc rfl (StabL.anc rfl (StabL.anc rfl (StabL.anc rfl (StabL.anc rfl (StabL.anc rfl (StabL.anc rfl trivial)))))))))))))), ?_⟩
 refine WT.f2 ?_
 refine WT.alt rfl (EO.storeL (v := (a106_ r64 vq69_2 vq69_3)) (vl := (l106 r64 vq69_2 vq69_3)) (arr' := (l106 r64 vq69_2 vq69_3)) rfl sz106 rfl rfl (onesOf (Ones.cons rfl (Ones.cons rfl (Ones.cons (RS.one hq69_2) (Ones.cons (OwnS.one hq69_3) Ones.nil))))) rfl rfl rfl) rfl ?_ ?_
 rintro _ _ _ - ⟨rfl, rfl⟩
 refine ⟨(StabL.anc rfl (StabL.anc rfl (StabL.anc rfl (StabL.anc rfl (StabL.anc rfl (StabL.anc rfl (StabL.anc rfl (StabL.anc rfl (StabL.anc rfl (StabL.anc rfl (StabL.anc rfl (StabL.anc rfl (StabL.anc rfl (StabL.anc rfl trivial)))))))))))))), ?_⟩
 refine WT.fin ?_
 refine WQ.f2 ?_
 refine WQ.f1 ?_
 refine WQ.f2 ?_
 refine WQ.f3 ?_
 obtain rfl := Option.some.inj h
 refine WQ.thenJ ?_
 exact ⟨g70, g61, vq69_2, vq69_3, cq69_3, hle67, rfl, (hρ 0), rfl, rfl, hq69_2, hq69_3⟩
 exact WT.no
 exact WT.no
 exact WT.no
 have h := hk62
 refine WT.alt rfl (EO.alloc ze67 rfl) rfl ?_ ?_
 rintro _ _ _ - ⟨rfl, g71, rfl, rfl⟩
 refine ⟨(StabL.st (StabA.of rfl (PO.buildL (cl := [(.int .i64 4), (.int .i64 a1), (.int .i64 a2)]) ze110 fp110 (Parts.cons (congrArg Value.cells (show ev _ _ = (.int .i64 4) from rfl)) (Parts.cons (congrArg Value.cells (show ev _ _ = (.int .i64 a1) from rfl)) (Parts.cons (congrArg Value.cells (show ev _ _ = (.int .i64 a2) from rfl)) Parts.nil))) rfl) rfl) (StabL.st (StabA.of rfl (PO.move (hρ 2)) rfl) (StabL.st (StabA.of rfl (PO.move (hρ 1)) rfl) (StabL.st (StabA.of rfl (PO.loadBA (cs := (l67 a0.S)) 2 ag67 sz67 rfl rfl rfl) rfl) (StabL.st (StabA.of rfl (PO.fieldAddr fo69_1 rfl rfl) rfl) (StabL.st (StabA.of rfl (PO.nilCheck rfl) rfl) (StabL.st (StabA.of rfl (PO.move (hρ 0)) rfl) (StabL.st (StabA.of rfl (PO.loadB 2 pl22 rfl rfl rfl) rfl) (StabL.st (StabA.of rfl (PO.fieldAddr fo69_0 rfl rfl) rfl) (StabL.st (StabA.of rfl (PO.nilCheck rfl) rfl) (StabL.st (StabA.of rfl (PO.move (hρ 0)) rfl) trivial))))))))))), ?_⟩
 obtain ⟨⟨r72, r73⟩, hr74, h⟩ := bnd h
 refine WT.alt rfl (EO.call0 co61 (f_ref02_Read_ok a0.B a0.S (⟨(4 : Int), a1, a2⟩ : T_ref02_Ask) _ _ h0_0 (r72, r73) hr74) (args3 rfl rfl rfl)) rfl ?_ ?_
 rintro _ M75 _ hle76 ⟨_, ⟨vq78_2, vq78_3, cq78_3, rfl, rfl, hq78_2, hq78_3⟩, rfl⟩
 have h0_0 := h0_0.mono hle76
 refine ⟨(StabL.anc rfl (StabL.anc rfl (StabL.anc rfl (StabL.anc rfl (StabL.anc rfl (StabL.anc rfl (StabL.anc rfl (StabL.anc rfl (StabL.anc rfl (StabL.anc rfl (StabL.anc rfl trivial))))))))))), ?_⟩
 refine WT.a1 ?_
 refine Tp (.tuple #[(a67_ r72), (a106_ r73 vq78_2 vq78_3)]) rfl (PO.move rfl) rfl ?_
 refine Tp (a67_ r72) rfl (PO.extract rfl rfl) rfl ?_
 refine Tp (a106_ r73 vq78_2 vq78_3) rfl (PO.extract rfl rfl) rfl ?_
 refine WT.f1 ?_
 refine WT.alt rfl (EO.storeL (v := (a67_ r72)) (vl := (l67 r72)) (arr' := (l67 r72)) rfl sz67 rfl rfl (onesOf (Ones.cons rfl (Ones.cons rfl (Ones.cons rfl (Ones.cons rfl Ones.nil))))) rfl rfl rfl) rfl ?_ ?_
 rintro _ _ _ - ⟨rfl, rfl⟩
 refine ⟨(StabL.st (StabA.of rfl (PO.extract rfl rfl) rfl) (StabL.anc rfl (StabL.anc rfl (StabL.anc rfl (StabL.anc rfl (StabL.anc rfl (StabL.anc rfl (StabL.anc rfl (StabL.anc rfl (StabL.anc rfl (StabL.anc rfl (StabL.anc rfl (StabL.anc rfl (StabL.anc rfl trivial)))))))))))))), ?_⟩
 refine WT.f2 ?_
 refine WT.alt rfl (EO.storeL (v := (a106_ r73 vq78_2 vq78_3)) (vl := (l106 r73 vq78_2 vq78_3)) (arr' := (l106 r73 vq78_2 vq78_3)) rfl sz106 rfl rfl (onesOf (Ones.cons rfl (Ones.cons rfl (Ones.cons (RS.one hq78_2) (Ones.cons (OwnS.one hq78_3) Ones.nil))))) rfl rfl rfl) rfl ?_ ?_
 rintro _ _ _ - ⟨rfl, rfl⟩
 refine ⟨(StabL.anc rfl (StabL.anc rfl (StabL.anc rfl (StabL.anc rfl (StabL.anc rfl (StabL.anc rfl (StabL.anc rfl (StabL.anc rfl (StabL.anc rfl (StabL.anc rfl (StabL.anc rfl (StabL.anc rfl (StabL.anc rfl (StabL.anc rfl trivial)))))))))))))), ?_⟩
 refine WT.fin ?_
 refine WQ.f2 ?_
 refine WQ.f1 ?_
 refine WQ.f2 ?_
 refine WQ.f3 ?_
 obtain rfl := Option.some.inj h
 refine WQ.thenJ ?_
 exact ⟨g71, g61, vq78_2, vq78_3, cq78_3, hle76, rfl, (hρ 0), rfl, rfl, hq78_2, hq78_3⟩
 exact WT.no
 exact WT.no
 exact WT.no
 exact WT.no
 exact WT.no
 obtain ⟨x22, x24, x25, x26, x27⟩ := j28
 rintro ρ28 M28 H28 ⟨g21, g23, vx26, vx27, cx27, hle28, rfl, hs28_0, hs28_7, hs28_8, hx26, hx27⟩
 have h0_0 := h0_0.mono hle28
 refine Sr ?_
 refine Pm (pt g0 0) hs28_0 rfl ?_
 refine Pu (a67_ x22) (PO.loadBA (cs := (l67 x22)) 1 ag67 sz67 hs28_7 rfl rfl) rfl ?_
 refine Pu (pt g0 0) (PO.nilCheck rfl) rfl ?_
 refine Pu (pt g0 1) (PO.fieldAddr fo69_1 rfl rfl) rfl ?_
 refine WL.eff (EO.storeL (v := (a67_ x22)) (vl := (l67 x22)) (arr' := [v0_0, (.int .i64 x22.At), (.int .i64 x22.Code), (.string x22.Op), (.int .i64 x22.Where)]) rfl sz67 rfl rfl (onesOf (Ones.cons rfl (Ones.cons rfl (Ones.cons rfl (Ones.cons rfl Ones.nil))))) rfl rfl rfl) rfl ?_
 rintro _ _ _ - ⟨rfl, rfl⟩
 refine Ns ?_
 refine Pu (pt g23 3) (PO.fieldAddr fo106_3 hs28_8 rfl) rfl ?_
 refine Pu vx27 (PO.loadB 2 pl24 rfl rfl rfl) rfl ?_
 refine Pa vx27 rfl rfl ?_
 refine Nt ?_
 refine WC.ret ?_
 refine WQ.f1 ?_
 refine WQ.drop ?_
 refine WQ.f1 ?_
 refine WQ.drop ?_
 exact WQ.returnsF h [[(g0, .cells #[v0_0, (.int .i64 x22.At), (.int .i64 x22.Code), (.string x22.Op), (.int .i64 x22.Where)] 69 (0, 0))], cx27] rfl (results1 rfl rfl) hle28 ⟨vx27, cx27, rfl, rfl, hx27⟩

noncomputable def f_ref02_End (a0 : (List Int)) (a1 : T_ref02_State) : Option T_ref02_State :=
  (if (decide (a1.At < (a0.length : Int))) = true then ((f_ref02_bad a1 (⟨#[101, 110, 100]⟩ : ByteArray) a1.At (5 : Int)).bind fun (r24 : T_ref02_State) => (some r24)) else (some a1))
def f_ref02_End_post (a0 : (List Int)) (a1 : T_ref02_State) (v0 : Value) : T_ref02_State → Value → IM → HL → Prop :=
  fun (r0 : T_ref02_State) (v : Value) (M' : IM) (H' : HL) => (.agg #[(.int .i64 r0.At), (.int .i64 r0.Code), (.string r0.Op), (.int .i64 r0.Where)]) = v ∧ H' = []
theorem f_ref02_End_ok (a0 : (List Int)) (a1 : T_ref02_State) (M : IM) (v0 : Value) (h0 : RS (Kd.int .u8) M v0 a0) (res : T_ref02_State) (h : f_ref02_End a0 a1 = some res) :
    Tri Tryz.prog 63 #[v0, (a67_ a1)] M [] (f_ref02_End_post a0 a1 v0 res) := by
 unfold f_ref02_End at h
 refine Tri.enter (fn := Tryz.f63) Tryz.func63 rfl (Nat.le_of_ble_eq_true rfl) ?_
 intro F ρ hρ
 refine Sr ?_
 refine WL.eff (EO.box (cs := (l67 a1).toArray) (congrArg Value.cells (asE (a67_ a1) (hρ 1)))) rfl ?_
 rintro _ _ _ - ⟨rfl, g21, rfl, rfl⟩
 refine WL.eff (EO.alloc ze67 rfl) rfl ?_
 rintro _ _ _ - ⟨rfl, g22, rfl, rfl⟩
 refine Nt ?_
 refine WC.seq ?_
 refine Sr ?_
 refine Pu (pt g21 0) (PO.fieldAddr fo67_0 rfl rfl) rfl ?_
 refine Pu (.int .i64 a1.At) (PO.loadB 1 pl3 rfl rfl rfl) rfl ?_
 refine Pm v0 (hρ 0) rfl ?_
 refine Pu (.int .i64 (a0.length : Int)) (PO.lenS Tryz.underlying22 rfl h0.len) rfl ?_
 refine Pu (.bool (decide (a1.At < (a0.length : Int)))) (PO.lss rfl rfl) rfl ?_
 refine Nt ?_
 refine WC.cond (b := decide (a1.At < (a0.length : Int))) rfl (fun hb23 => ?_) (fun hb23 => ?_)
 have h := ite_t hb23 h
 refine Sr ?_
 refine Pu (a67_ a1) (PO.loadBA (cs := (l67 a1)) 1 ag67 sz67 rfl rfl rfl) rfl ?_
 refine Pu (pt g21 0) (PO.fieldAddr fo67_0 rfl rfl) rfl ?_
 refine Pu (.int .i64 a1.At) (PO.loadB 1 pl3 rfl rfl rfl) rfl ?_
 obtain ⟨r24, hr25, h⟩ := bnd h
 refine WL.eff (EO.call0 co77 (f_ref02_bad_ok a1 (⟨#[101, 110, 100]⟩ : ByteArray) a1.At (5 : Int) _ r24 hr25) (args4 rfl rfl rfl rfl)) rfl ?_
 rintro _ M26 _ hle27 ⟨_, ⟨rfl, rfl⟩, rfl⟩
 refine WL.a0 ?_
 refine WL.eff (EO.storeL (v := (a67_ r24)) (vl := (l67 r24)) (arr' := (l67 r24)) rfl sz67 rfl rfl (onesOf (Ones.cons rfl (Ones.cons rfl (Ones.cons rfl (Ones.cons rfl Ones.nil))))) rfl rfl rfl) rfl ?_
 rintro _ _ _ - ⟨rfl, rfl⟩
 refine Nt ?_
 refine WC.ret ?_
 refine WQ.thenR ?_
 refine WQ.f1 ?_
 refine WQ.drop ?_
 exact WQ.returnsD h [] (fun _ hs => hs.drop) (resultsL1 rfl (RV.cellA (cs := (l67 r24)) 0 ag67 sz67 rfl rfl rfl)) hle27 ⟨rfl, rfl⟩
 have h := ite_f hb23 h
 refine WC.skip ?_
 refine WQ.thenC ?_
 refine Sr ?_
 refine Pu (a67_ a1) (PO.loadBA (cs := (l67 a1)) 1 ag67 sz67 rfl rfl rfl) rfl ?_
 refine WL.eff (EO.storeL (v := (a67_ a1)) (vl := (l67 a1)) (arr' := (l67 a1)) rfl sz67 rfl rfl (onesOf (Ones.cons rfl (Ones.cons rfl (Ones.cons rfl (Ones.cons rfl Ones.nil))))) rfl rfl rfl) rfl ?_
 rintro _ _ _ - ⟨rfl, rfl⟩
 refine Nt ?_
 refine WC.ret ?_
 refine WQ.f1 ?_
 refine WQ.drop ?_
 exact WQ.returnsD h [] (fun _ hs => hs.drop) (resultsL1 rfl (RV.cellA (cs := (l67 a1)) 0 ag67 sz67 rfl rfl rfl)) (IM.le.refl _) ⟨rfl, rfl⟩

noncomputable def f_ref05_Cursor_End (a0 : T_ref05_Cursor) : Option (Int × Int × ByteArray × Int) :=
  ((f_ref02_End a0.B a0.S).bind fun (r21 : T_ref02_State) => (some (r21.At, r21.Code, r21.Op, r21.Where)))
def f_ref05_Cursor_End_post (a0 : T_ref05_Cursor) (v0_0 : Value) (g0 : Nat) : (Int × Int × ByteArray × Int) → Value → IM → HL → Prop :=
  fun (p_ : (Int × Int × ByteArray × Int)) (v : Value) (M' : IM) (H' : HL) => match p_ with | (r0, r1, r2, r3) => (.tuple #[]) = v ∧ H' = [[(g0, .cells #[v0_0, (.int .i64 r0), (.int .i64 r1), (.string r2), (.int .i64 r3)] 69 (0, 0))]]
theorem f_ref05_Cursor_End_ok (a0 : T_ref05_Cursor) (M : IM) (v0_0 : Value) (g0 : Nat) (h0_0 : RS (Kd.int .u8) M v0_0 a0.B) (res : (Int × Int × ByteArray × Int)) (h : f_ref05_Cursor_End a0 = some res) :
    Tri Tryz.prog 37 #[(pt g0 0)] M [[(g0, .cells (l69 a0 v0_0).toArray 69 (0, 0))]] (f_ref05_Cursor_End_post a0 v0_0 g0 res) := by
 unfold f_ref05_Cursor_End at h
 refine Tri.enter (fn := Tryz.f37) Tryz.func37 rfl (Nat.le_of_ble_eq_true rfl) ?_
 intro F ρ hρ
 refine WC.draw [0, 0, 2, 6, 14, 0, 32, 96, 224, 510, 1023, 2047, 4095] (.pure 0 (.pure 1 (.pure 2 (.pure 3 (.pure 4 (.pure 5 (.pure 6 (.pure 7 (.pure 8 (.alt 9 (.pure 10 (.pure 11 (.alt 12 .done .none))) .none)))))))))) mixed (by kernel_rfl) ?_
 refine Tp (pt g0 0) rfl (PO.move (hρ 0)) rfl ?_
 refine Tp (pt g0 0) rfl (PO.move (hρ 0)) rfl ?_
 refine Tp (pt g0 0) rfl (PO.nilCheck rfl) rfl ?_
 refine Tp (pt g0 0) rfl (PO.fieldAddr fo69_0 rfl rfl) rfl ?_
 refine Tp v0_0 rfl (PO.loadB 0 pl22 rfl rfl rfl) rfl ?_
 refine Tp (pt g0 0) rfl (PO.move (hρ 0)) rfl ?_
 refine Tp (pt g0 0) rfl (PO.nilCheck rfl) rfl ?_
 refine Tp (pt g0 1) rfl (PO.fieldAddr fo69_1 rfl rfl) rfl ?_
 refine Tp (a67_ a0.S) rfl (PO.loadBA (cs := (l67 a0.S)) 0 ag67 sz67 rfl rfl rfl) rfl ?_
 obtain ⟨r21, hr22, h⟩ := bnd h
 refine WT.alt rfl (EO.call0 co63 (f_ref02_End_ok a0.B a0.S _ _ h0_0 r21 hr22) (args2 rfl rfl)) rfl ?_ ?_
 rintro _ M23 _ hle24 ⟨_, ⟨rfl, rfl⟩, rfl⟩
 have h0_0 := h0_0.mono hle24
 refine ⟨(StabL.anc rfl (StabL.anc rfl (StabL.anc rfl (StabL.anc rfl (StabL.anc rfl (StabL.anc rfl (StabL.anc rfl (StabL.anc rfl (StabL.st (StabA.of rfl (PO.move (hρ 0)) rfl) trivial))))))))), ?_⟩
 refine WT.a0 ?_
 refine Tp (pt g0 0) rfl (PO.nilCheck rfl) rfl ?_
 refine Tp (pt g0 1) rfl (PO.fieldAddr fo69_1 rfl rfl) rfl ?_
 refine WT.alt rfl (EO.storeL (v := (a67_ r21)) (vl := (l67 r21)) (arr' := [v0_0, (.int .i64 r21.At), (.int .i64 r21.Code), (.string r21.Op), (.int .i64 r21.Where)]) rfl sz67 rfl rfl (onesOf (Ones.cons rfl (Ones.cons rfl (Ones.cons rfl (Ones.cons rfl Ones.nil))))) rfl rfl rfl) rfl ?_ ?_
 rintro _ _ _ - ⟨rfl, rfl⟩
 refine ⟨(StabL.anc rfl (StabL.anc rfl (StabL.anc rfl (StabL.anc rfl (StabL.anc rfl (StabL.anc rfl (StabL.anc rfl (StabL.anc rfl (StabL.anc rfl (StabL.anc rfl (StabL.anc rfl trivial))))))))))), ?_⟩
 refine WT.fin ?_
 exact WQ.endsF h [[(g0, .cells #[v0_0, (.int .i64 r21.At), (.int .i64 r21.Code), (.string r21.Op), (.int .i64 r21.Where)] 69 (0, 0))]] rfl (results0 rfl) hle24 ⟨rfl, rfl⟩
 exact WT.no
 exact WT.no

noncomputable def f_ref22_txt (a0 : ByteArray) (a1 : Bool) (a2 : Int) : Option Bool :=
  (if a1 = true then (some (decide ((a0.size : Int) ≤ a2))) else (some (decide (a0 = (⟨#[]⟩ : ByteArray)))))
def f_ref22_txt_post (a0 : ByteArray) (a1 : Bool) (a2 : Int) : Bool → Value → IM → HL → Prop :=
  fun (r0 : Bool) (v : Value) (M' : IM) (H' : HL) => (.bool r0) = v ∧ H' = []
theorem f_ref22_txt_ok (a0 : ByteArray) (a1 : Bool) (a2 : Int) (M : IM) (res : Bool) (h : f_ref22_txt a0 a1 a2 = some res) :
    Tri Tryz.prog 64 #[(.string a0), (.bool a1), (.int .i64 a2)] M [] (f_ref22_txt_post a0 a1 a2 res) := by
 unfold f_ref22_txt at h
 refine Tri.enter (fn := Tryz.f64) Tryz.func64 rfl (Nat.le_of_ble_eq_true rfl) ?_
 intro F ρ hρ
 refine Sr ?_
 refine Pa (.bool false) rfl rfl ?_
 refine Nt ?_
 refine WC.seq ?_
 refine Sr ?_
 refine Pm (.bool a1) (hρ 1) rfl ?_
 refine Nt ?_
 refine WC.cond (b := a1) rfl (fun hb21 => ?_) (fun hb21 => ?_)
 have h := ite_t hb21 h
 refine Sr ?_
 refine Pm (.string a0) (hρ 0) rfl ?_
 refine Pu (.int .i64 (a0.size : Int)) (PO.lenStr Tryz.underlying9 rfl) rfl ?_
 refine Pm (.int .i64 a2) (hρ 2) rfl ?_
 refine Pu (.bool (decide ((a0.size : Int) ≤ a2))) (PO.leq rfl rfl) rfl ?_
 refine Pa (.bool (decide ((a0.size : Int) ≤ a2))) rfl rfl ?_
 refine Nt ?_
 refine WC.ret ?_
 refine WQ.thenR ?_
 exact WQ.returnsF h [] rfl (results1 rfl rfl) (IM.le.refl _) ⟨rfl, rfl⟩
 have h := ite_f hb21 h
 refine WC.skip ?_
 refine WQ.thenC ?_
 refine Sr ?_
 refine Pm (.string a0) (hρ 0) rfl ?_
 refine Pu (.bool (decide (a0 = (⟨#[]⟩ : ByteArray)))) (PO.seql rfl rfl) rfl ?_
 refine Pa (.bool (decide (a0 = (⟨#[]⟩ : ByteArray)))) rfl rfl ?_
 refine Nt ?_
 refine WC.ret ?_
 exact WQ.returnsF h [] rfl (results1 rfl rfl) (IM.le.refl _) ⟨rfl, rfl⟩

noncomputable def f_ref22_num (a0 : Int) (a1 : Bool) (a2 : Int) : Option Bool :=
  (if a1 = true then (((if (decide ((0 : Int) ≤ a0)) = true then (some (decide (a0 ≤ a2))) else (some false)) : Option Bool).bind fun (x22 : Bool) => (some x22)) else (some (decide (a0 = (0 : Int)))))
def f_ref22_num_post (a0 : Int) (a1 : Bool) (a2 : Int) : Bool → Value → IM → HL → Prop :=
  fun (r0 : Bool) (v : Value) (M' : IM) (H' : HL) => (.bool r0) = v ∧ H' = []
theorem f_ref22_num_ok (a0 : Int) (a1 : Bool) (a2 : Int) (M : IM) (res : Bool) (h : f_ref22_num a0 a1 a2 = some res) :
    Tri Tryz.prog 65 #[(.int .i64 a0), (.bool a1), (.int .i64 a2)] M [] (f_ref22_num_post a0 a1 a2 res) := by
 unfold f_ref22_num at h
 refine Tri.enter (fn := Tryz.f65) Tryz.func65 rfl (Nat.le_of_ble_eq_true rfl) ?_
 intro F ρ hρ
 refine Sr ?_
 refine Pa (.bool false) rfl rfl ?_
 refine Nt ?_
 refine WC.seq ?_
 refine Sr ?_
 refine Pm (.bool a1) (hρ 1) rfl ?_
 refine Nt ?_
 refine WC.cond (b := a1) rfl (fun hb21 => ?_) (fun hb21 => ?_)
 have h := ite_t hb21 h
 obtain ⟨x22, hj23, h⟩ := bnd h
 refine WC.joinF (fun (x22 : Bool) ρ' M' H' => M.le M' ∧ F = H' ∧ ρ' 6 = (.bool x22)) x22 ?_ ?_
 have h323 := h
 have h := hj23
 refine WC.region ?_
 refine Pm (.int .i64 a0) (hρ 0) rfl ?_
 refine Pu (.bool (decide ((0 : Int) ≤ a0))) (PO.geq rfl rfl) rfl ?_
 refine Pm (.bool (decide ((0 : Int) ≤ a0))) rfl rfl ?_
 rcases Bool.eq_false_or_eq_true (decide ((0 : Int) ≤ a0)) with hb24 | hb24
 have h := ite_t hb24 h
 refine On 10 rfl rfl hb24 ?_
 refine Pm (.int .i64 a0) (hρ 0) rfl ?_
 refine On 10 rfl rfl hb24 ?_
 refine Pm (.int .i64 a2) (hρ 2) rfl ?_
 refine On 10 rfl rfl hb24 ?_
 refine Pu (.bool (decide (a0 ≤ a2))) (PO.leq rfl rfl) rfl ?_
 refine Pu (.bool (decide (a0 ≤ a2))) (PO.pickT rfl hb24 rfl) rfl ?_
 refine Pa (.bool (decide (a0 ≤ a2))) rfl rfl ?_
 refine WL.nil ?_
 obtain rfl := Option.some.inj h
 refine WQ.thenJ ?_
 exact ⟨(IM.le.refl _), rfl, rfl⟩
 have h := ite_f hb24 h
 iterate 3 refine Of 10 rfl rfl hb24 rfl ?_
 refine Pu (.bool false) (PO.pickF rfl hb24 rfl) rfl ?_
 refine Pa (.bool false) rfl rfl ?_
 refine WL.nil ?_
 obtain rfl := Option.some.inj h
 refine WQ.thenJ ?_
 exact ⟨(IM.le.refl _), rfl, rfl⟩
 rintro ρ23 M23 H23 ⟨hle23, rfl, hs23_6⟩
 refine WC.ret ?_
 refine WQ.thenR ?_
 exact WQ.returnsF h [] rfl (results1 rfl hs23_6) hle23 ⟨rfl, rfl⟩
 have h := ite_f hb21 h
 refine WC.skip ?_
 refine WQ.thenC ?_
 refine Sr ?_
 refine Pm (.int .i64 a0) (hρ 0) rfl ?_
 refine Pu (.bool (decide (a0 = 0))) (PO.eql rfl rfl) rfl ?_
 refine Pa (.bool (decide (a0 = 0))) rfl rfl ?_
 refine Nt ?_
 refine WC.ret ?_
 exact WQ.returnsF h [] rfl (results1 rfl rfl) (IM.le.refl _) ⟨rfl, rfl⟩

noncomputable def f_ref22_said (a0 : T_api_Word) (a1 : Bool) : Option Bool :=
  (if (!a1) = true then (((if (decide (a0.Broker = (0 : Int))) = true then (if (decide (a0.Epoch = (0 : Int))) = true then (if (decide (a0.High = (0 : Int))) = true then (if (!a0.Fence) = true then (some (!a0.Leave)) else (some false)) else (some false)) else (some false)) else (some false)) : Option Bool).bind fun (x23 : Bool) => (some x23)) else (((if (decide ((1 : Int) ≤ a0.Broker)) = true then ((f_ref22_num a0.Broker true (64 : Int)).bind fun (r32 : Bool) => (if r32 = true then ((f_ref22_num a0.Epoch true (1073741824 : Int)).bind fun (r38 : Bool) => (if r38 = true then ((f_ref22_num a0.High true (1073741824 : Int)).bind fun (r44 : Bool) => (some r44)) else (some false))) else (some false))) else (some false)) : Option Bool).bind fun (x29 : Bool) => (some x29)))
def f_ref22_said_post (a0 : T_api_Word) (a1 : Bool) : Bool → Value → IM → HL → Prop :=
  fun (r0 : Bool) (v : Value) (M' : IM) (H' : HL) => (.bool r0) = v ∧ H' = []
theorem f_ref22_said_ok (a0 : T_api_Word) (a1 : Bool) (M : IM) (res : Bool) (h : f_ref22_said a0 a1 = some res) :
    Tri Tryz.prog 66 #[(a26_ a0), (.bool a1)] M [] (f_ref22_said_post a0 a1 res) := by
 unfold f_ref22_said at h
 refine Tri.enter (fn := Tryz.f66) Tryz.func66 rfl (Nat.le_of_ble_eq_true rfl) ?_
 intro F ρ hρ
 refine Sr ?_
 refine WL.eff (EO.box (cs := (l26 a0).toArray) (congrArg Value.cells (asE (a26_ a0) (hρ 0)))) rfl ?_
 rintro _ _ _ - ⟨rfl, g21, rfl, rfl⟩
 refine Pa (.bool false) rfl rfl ?_
 refine Nt ?_
 refine WC.seq ?_
 refine Sr ?_
 refine Pm (.bool a1) (hρ 1) rfl ?_
 refine Pu (.bool (!a1)) (PO.not rfl) rfl ?_
 refine Nt ?_
 refine WC.cond (b := !a1) rfl (fun hb22 => ?_) (fun hb22 => ?_)
 have h := ite_t hb22 h
 obtain ⟨x23, hj24, h⟩ := bnd h
 refine WC.joinF (fun (x23 : Bool) ρ' M' H' => M.le M' ∧ [(g21, .cells (l26 a0).toArray 26 (0, 0))] :: F = H' ∧ ρ' 4 = (.bool x23)) x23 ?_ ?_
 have h324 := h
 have h := hj24
 refine WC.region ?_
 refine Pu (pt g21 0) (PO.fieldAddr fo26_0 rfl rfl) rfl ?_
 refine Pu (.int .i64 a0.Broker) (PO.loadB 0 pl3 rfl rfl rfl) rfl ?_
 refine Pu (.bool (decide (a0.Broker = 0))) (PO.eql rfl rfl) rfl ?_
 refine Pm (.bool (decide (a0.Broker = 0))) rfl rfl ?_
 rcases Bool.eq_false_or_eq_true (decide (a0.Broker = 0)) with hb25 | hb25
 have h := ite_t hb25 h
 refine On 10 rfl rfl hb25 ?_
 refine Pu (pt g21 1) (PO.fieldAddr fo26_1 rfl rfl) rfl ?_
 refine On 10 rfl rfl hb25 ?_
 refine Pu (.int .i64 a0.Epoch) (PO.loadB 0 pl3 rfl rfl rfl) rfl ?_
 refine On 10 rfl rfl hb25 ?_
 refine Pu (.bool (decide (a0.Epoch = 0))) (PO.eql rfl rfl) rfl ?_
 refine Pu (.bool (decide (a0.Epoch = 0))) (PO.pickT rfl hb25 rfl) rfl ?_
 refine Pm (.bool (decide (a0.Epoch = 0))) rfl rfl ?_
 rcases Bool.eq_false_or_eq_true (decide (a0.Epoch = 0)) with hb26 | hb26
 have h := ite_t hb26 h
 refine On 15 rfl rfl hb26 ?_
 refine Pu (pt g21 2) (PO.fieldAddr fo26_2 rfl rfl) rfl ?_
 refine On 15 rfl rfl hb26 ?_
 refine Pu (.int .i64 a0.High) (PO.loadB 0 pl3 rfl rfl rfl) rfl ?_
 refine On 15 rfl rfl hb26 ?_
 refine Pu (.bool (decide (a0.High = 0))) (PO.eql rfl rfl) rfl ?_
 refine Pu (.bool (decide (a0.High = 0))) (PO.pickT rfl hb26 rfl) rfl ?_
 refine Pm (.bool (decide (a0.High = 0))) rfl rfl ?_
 rcases Bool.eq_false_or_eq_true (decide (a0.High = 0)) with hb27 | hb27
 have h := ite_t hb27 h
 refine On 20 rfl rfl hb27 ?_
 refine Pu (pt g21 3) (PO.fieldAddr fo26_3 rfl rfl) rfl ?_
 refine On 20 rfl rfl hb27 ?_
 refine Pu (.bool a0.Fence) (PO.loadB 0 pl4 rfl rfl rfl) rfl ?_
 refine On 20 rfl rfl hb27 ?_
 refine Pu (.bool (!a0.Fence)) (PO.not rfl) rfl ?_
 refine Pu (.bool (!a0.Fence)) (PO.pickT rfl hb27 rfl) rfl ?_
 refine Pm (.bool (!a0.Fence)) rfl rfl ?_
 rcases Bool.eq_false_or_eq_true (!a0.Fence) with hb28 | hb28
 have h := ite_t hb28 h
 refine On 25 rfl rfl hb28 ?_
 refine Pu (pt g21 4) (PO.fieldAddr fo26_4 rfl rfl) rfl ?_
 refine On 25 rfl rfl hb28 ?_
 refine Pu (.bool a0.Leave) (PO.loadB 0 pl4 rfl rfl rfl) rfl ?_
 refine On 25 rfl rfl hb28 ?_
 refine Pu (.bool (!a0.Leave)) (PO.not rfl) rfl ?_
 refine Pu (.bool (!a0.Leave)) (PO.pickT rfl hb28 rfl) rfl ?_
 refine Pa (.bool (!a0.Leave)) rfl rfl ?_
 refine WL.nil ?_
 obtain rfl := Option.some.inj h
 refine WQ.thenJ ?_
 exact ⟨(IM.le.refl _), rfl, rfl⟩
 have h := ite_f hb28 h
 iterate 3 refine Of 25 rfl rfl hb28 rfl ?_
 refine Pu (.bool false) (PO.pickF rfl hb28 rfl) rfl ?_
 refine Pa (.bool false) rfl rfl ?_
 refine WL.nil ?_
 obtain rfl := Option.some.inj h
 refine WQ.thenJ ?_
 exact ⟨(IM.le.refl _), rfl, rfl⟩
 have h := ite_f hb27 h
 iterate 3 refine Of 20 rfl rfl hb27 rfl ?_
 refine Pu (.bool false) (PO.pickF rfl hb27 rfl) rfl ?_
 refine Pm (.bool false) rfl rfl ?_
 iterate 3 refine Of 25 rfl rfl rfl rfl ?_
 refine Pu (.bool false) (PO.pickF rfl rfl rfl) rfl ?_
 refine Pa (.bool false) rfl rfl ?_
 refine WL.nil ?_
 obtain rfl := Option.some.inj h
 refine WQ.thenJ ?_
 exact ⟨(IM.le.refl _), rfl, rfl⟩
 have h := ite_f hb26 h
 iterate 3 refine Of 15 rfl rfl hb26 rfl ?_
 refine Pu (.bool false) (PO.pickF rfl hb26 rfl) rfl ?_
 refine Pm (.bool false) rfl rfl ?_
 iterate 3 refine Of 20 rfl rfl rfl rfl ?_
 refine Pu (.bool false) (PO.pickF rfl rfl rfl) rfl ?_
 refine Pm (.bool false) rfl rfl ?_
 iterate 3 refine Of 25 rfl rfl rfl rfl ?_
 refine Pu (.bool false) (PO.pickF rfl rfl rfl) rfl ?_
 refine Pa (.bool false) rfl rfl ?_
 refine WL.nil ?_
 obtain rfl := Option.some.inj h
 refine WQ.thenJ ?_
 exact ⟨(IM.le.refl _), rfl, rfl⟩
 have h := ite_f hb25 h
 iterate 3 refine Of 10 rfl rfl hb25 rfl ?_
 refine Pu (.bool false) (PO.pickF rfl hb25 rfl) rfl ?_
 refine Pm (.bool false) rfl rfl ?_
 iterate 3 refine Of 15 rfl rfl rfl rfl ?_
 refine Pu (.bool false) (PO.pickF rfl rfl rfl) rfl ?_
 refine Pm (.bool false) rfl rfl ?_
 iterate 3 refine Of 20 rfl rfl rfl rfl ?_
 refine Pu (.bool false) (PO.pickF rfl rfl rfl) rfl ?_
 refine Pm (.bool false) rfl rfl ?_
 iterate 3 refine Of 25 rfl rfl rfl rfl ?_
 refine Pu (.bool false) (PO.pickF rfl rfl rfl) rfl ?_
 refine Pa (.bool false) rfl rfl ?_
 refine WL.nil ?_
 obtain rfl := Option.some.inj h
 refine WQ.thenJ ?_
 exact ⟨(IM.le.refl _), rfl, rfl⟩
 rintro ρ24 M24 H24 ⟨hle24, rfl, hs24_4⟩
 refine WC.ret ?_
 refine WQ.thenR ?_
 refine WQ.drop ?_
 exact WQ.returnsF h [] rfl (results1 rfl hs24_4) hle24 ⟨rfl, rfl⟩
 have h := ite_f hb22 h
 refine WC.skip ?_
 refine WQ.thenC ?_
 obtain ⟨x29, hj30, h⟩ := bnd h
 refine WC.joinF (fun (x29 : Bool) ρ' M' H' => M.le M' ∧ [(g21, .cells (l26 a0).toArray 26 (0, 0))] :: F = H' ∧ ρ' 4 = (.bool x29)) x29 ?_ ?_
 have h330 := h
 have h := hj30
 refine WC.region ?_
 refine Pu (pt g21 0) (PO.fieldAddr fo26_0 rfl rfl) rfl ?_
 refine Pu (.int .i64 a0.Broker) (PO.loadB 0 pl3 rfl rfl rfl) rfl ?_
 refine Pu (.bool (decide ((1 : Int) ≤ a0.Broker))) (PO.geq rfl rfl) rfl ?_
 refine Pm (.bool (decide ((1 : Int) ≤ a0.Broker))) rfl rfl ?_
 rcases Bool.eq_false_or_eq_true (decide ((1 : Int) ≤ a0.Broker)) with hb31 | hb31
 have h := ite_t hb31 h
 refine On 33 rfl rfl hb31 ?_
 refine Pu (pt g21 0) (PO.fieldAddr fo26_0 rfl rfl) rfl ?_
 refine On 33 rfl rfl hb31 ?_
 refine Pu (.int .i64 a0.Broker) (PO.loadB 0 pl3 rfl rfl rfl) rfl ?_
 refine On 33 rfl rfl hb31 ?_
 obtain ⟨r32, hr33, h⟩ := bnd h
 refine WL.eff (EO.call0 co65 (f_ref22_num_ok a0.Broker true (64 : Int) _ r32 hr33) (args3 rfl rfl rfl)) rfl ?_
 rintro _ M34 _ hle35 ⟨_, ⟨rfl, rfl⟩, rfl⟩
 refine WL.a0 ?_
 refine Pu (.bool r32) (PO.pickT rfl hb31 rfl) rfl ?_
 refine Pm (.bool r32) rfl rfl ?_
 rcases Bool.eq_false_or_eq_true (r32) with hb37 | hb37
 have h := ite_t hb37 h
 refine On 38 rfl rfl hb37 ?_
 refine Pu (pt g21 1) (PO.fieldAddr fo26_1 rfl rfl) rfl ?_
 refine On 38 rfl rfl hb37 ?_
 refine Pu (.int .i64 a0.Epoch) (PO.loadB 0 pl3 rfl rfl rfl) rfl ?_
 refine On 38 rfl rfl hb37 ?_
 obtain ⟨r38, hr39, h⟩ := bnd h
 refine WL.eff (EO.call0 co65 (f_ref22_num_ok a0.Epoch true (1073741824 : Int) _ r38 hr39) (args3 rfl rfl rfl)) rfl ?_
 rintro _ M40 _ hle41 ⟨_, ⟨rfl, rfl⟩, rfl⟩
 refine WL.a0 ?_
 refine Pu (.bool r38) (PO.pickT rfl hb37 rfl) rfl ?_
 refine Pm (.bool r38) rfl rfl ?_
 rcases Bool.eq_false_or_eq_true (r38) with hb43 | hb43
 have h := ite_t hb43 h
 refine On 43 rfl rfl hb43 ?_
 refine Pu (pt g21 2) (PO.fieldAddr fo26_2 rfl rfl) rfl ?_
 refine On 43 rfl rfl hb43 ?_
 refine Pu (.int .i64 a0.High) (PO.loadB 0 pl3 rfl rfl rfl) rfl ?_
 refine On 43 rfl rfl hb43 ?_
 obtain ⟨r44, hr45, h⟩ := bnd h
 refine WL.eff (EO.call0 co65 (f_ref22_num_ok a0.High true (1073741824 : Int) _ r44 hr45) (args3 rfl rfl rfl)) rfl ?_
 rintro _ M46 _ hle47 ⟨_, ⟨rfl, rfl⟩, rfl⟩
 refine WL.a0 ?_
 refine Pu (.bool r44) (PO.pickT rfl hb43 rfl) rfl ?_
 refine Pa (.bool r44) rfl rfl ?_
 refine WL.nil ?_
 obtain rfl := Option.some.inj h
 refine WQ.thenJ ?_
 exact ⟨((hle35.trans hle41).trans hle47), rfl, rfl⟩
 have h := ite_f hb43 h
 iterate 3 refine Of 43 rfl rfl hb43 rfl ?_
 refine Pu (.bool false) (PO.pickF rfl hb43 rfl) rfl ?_
 refine Pa (.bool false) rfl rfl ?_
 refine WL.nil ?_
 obtain rfl := Option.some.inj h
 refine WQ.thenJ ?_
 exact ⟨(hle35.trans hle41), rfl, rfl⟩
 have h := ite_f hb37 h
 iterate 3 refine Of 38 rfl rfl hb37 rfl ?_
 refine Pu (.bool false) (PO.pickF rfl hb37 rfl) rfl ?_
 refine Pm (.bool false) rfl rfl ?_
 iterate 3 refine Of 43 rfl rfl rfl rfl ?_
 refine Pu (.bool false) (PO.pickF rfl rfl rfl) rfl ?_
 refine Pa (.bool false) rfl rfl ?_
 refine WL.nil ?_
 obtain rfl := Option.some.inj h
 refine WQ.thenJ ?_
 exact ⟨hle35, rfl, rfl⟩
 have h := ite_f hb31 h
 iterate 3 refine Of 33 rfl rfl hb31 rfl ?_
 refine Pu (.bool false) (PO.pickF rfl hb31 rfl) rfl ?_
 refine Pm (.bool false) rfl rfl ?_
 iterate 3 refine Of 38 rfl rfl rfl rfl ?_
 refine Pu (.bool false) (PO.pickF rfl rfl rfl) rfl ?_
 refine Pm (.bool false) rfl rfl ?_
 iterate 3 refine Of 43 rfl rfl rfl rfl ?_
 refine Pu (.bool false) (PO.pickF rfl rfl rfl) rfl ?_
 refine Pa (.bool false) rfl rfl ?_
 refine WL.nil ?_
 obtain rfl := Option.some.inj h
 refine WQ.thenJ ?_
 exact ⟨(IM.le.refl _), rfl, rfl⟩
 rintro ρ30 M30 H30 ⟨hle30, rfl, hs30_4⟩
 refine WC.ret ?_
 refine WQ.drop ?_
 exact WQ.returnsF h [] rfl (results1 rfl hs30_4) hle30 ⟨rfl, rfl⟩

noncomputable def f_ref05_Brokers_l1 (a0 : (List Int)) (x24 : Int) (s_ : Int) : Option (Int ⊕ (Unit ⊕ Unit)) :=
  match s_ with
  | x46 =>
    (if (decide (x46 < x24)) = true then (grd (0 ≤ x46 ∧ x46 < a0.length) (grd (0 ≤ x24 ∧ x24 < a0.length) (if (decide ((rd a0 x46) = (rd a0 x24))) = true then (some (Sum.inr (Sum.inr ()))) else (some (Sum.inl (IntKind.i64.wrap (x46 + (1 : Int)))))))) else (some (Sum.inr (Sum.inl ()))))
noncomputable def f_ref05_Brokers_l0 (a0 : (List Int)) (s_ : Int) : Option (Int ⊕ (Unit ⊕ Unit)) :=
  match s_ with
  | x24 =>
    (if (decide (x24 < (a0.length : Int))) = true then (((((grd (0 ≤ x24 ∧ x24 < a0.length) (if (decide ((rd a0 x24) < (1 : Int))) = true then (some true) else (grd (0 ≤ x24 ∧ x24 < a0.length) (some (decide ((64 : Int) < (rd a0 x24))))))) : Option Bool).bind fun (x27 : Bool) => (if x27 = true then (((some (Sum.inr (Sum.inr ())))).bind fun r => some (Sum.inr r)) else ((iter (f_ref05_Brokers_l1 a0 x24) (0 : Int)).bind (Sum.elim (fun _ => (some (Sum.inl ()))) (fun _ => (((some (Sum.inr (Sum.inr ())))).bind fun r => some (Sum.inr r))))))) : Option (Unit ⊕ (Int ⊕ (Unit ⊕ Unit)))).bind (Sum.elim (fun _ => (some (Sum.inl (IntKind.i64.wrap (x24 + (1 : Int)))))) some)) else (some (Sum.inr (Sum.inl ()))))
noncomputable def f_ref05_Brokers (a0 : (List Int)) : Option Bool :=
  (if (decide ((7 : Int) < (a0.length : Int))) = true then (some false) else ((((iter (f_ref05_Brokers_l0 a0) (0 : Int)).bind (Sum.elim (fun _ => (some (Sum.inl ()))) (fun _ => (((some false)).bind fun r => some (Sum.inr r))))) : Option (Unit ⊕ Bool)).bind (Sum.elim (fun _ => (some true)) some)))
def f_ref05_Brokers_post (a0 : (List Int)) (v0 : Value) : Bool → Value → IM → HL → Prop :=
  fun (r0 : Bool) (v : Value) (M' : IM) (H' : HL) => (.bool r0) = v ∧ H' = []
theorem f_ref05_Brokers_ok (a0 : (List Int)) (M : IM) (v0 : Value) (h0 : RS (Kd.int .i64) M v0 a0) (res : Bool) (h : f_ref05_Brokers a0 = some res) :
    Tri Tryz.prog 67 #[v0] M [] (f_ref05_Brokers_post a0 v0 res) := by
 unfold f_ref05_Brokers at h
 refine Tri.enter (fn := Tryz.f67) Tryz.func67 rfl (Nat.le_of_ble_eq_true rfl) ?_
 intro F ρ hρ
 refine Sr ?_
 refine Pa (.bool false) rfl rfl ?_
 refine Nt ?_
 refine WC.seq ?_
 refine Sr ?_
 refine Pm v0 (hρ 0) rfl ?_
 refine Pu (.int .i64 (a0.length : Int)) (PO.lenS Tryz.underlying24 rfl h0.len) rfl ?_
 refine Pu (.bool (decide ((7 : Int) < (a0.length : Int)))) (PO.gtr rfl rfl) rfl ?_
 refine Nt ?_
 refine WC.cond (b := decide ((7 : Int) < (a0.length : Int))) rfl (fun hb21 => ?_) (fun hb21 => ?_)
 have h := ite_t hb21 h
 refine Sr ?_
 refine Pa (.bool false) rfl rfl ?_
 refine Nt ?_
 refine WC.ret ?_
 refine WQ.thenR ?_
 exact WQ.returnsF h [] rfl (results1 rfl rfl) (IM.le.refl _) ⟨rfl, rfl⟩
 have h := ite_f hb21 h
 refine WC.skip ?_
 refine WQ.thenC ?_
 obtain ⟨j22, hj22, h⟩ := bnd h
 refine WC.joinE (fun (_ : Unit) ρ' M' H' => M.le M' ∧ F = H') j22 ?_ ?_
 have h322 := h
 have h := hj22
 refine Sr ?_
 refine Pa (.int .i64 0) rfl rfl ?_
 refine Nt ?_
 refine WC.block ?_
 obtain ⟨e23, he23, hK23⟩ := bnd h
 clear h
 refine WC.loop he23 (fun (x24 : Int) ρ' M' H' => M.le M' ∧ F = H' ∧ ρ' 0 = v0 ∧ ρ' 3 = (.int .i64 x24)) ?_ ?_
 exact ⟨(IM.le.refl _), rfl, (hρ 0), rfl⟩
 rintro x24 o23 ρ23 M23 H23 h ⟨hle23, rfl, hs23_0, hs23_3⟩
 unfold f_ref05_Brokers_l0 at h
 have h0 := h0.mono hle23
 refine WC.seq ?_
 refine Sr ?_
 refine Pm (.int .i64 x24) hs23_3 rfl ?_
 refine Pm v0 hs23_0 rfl ?_
 refine Pu (.int .i64 (a0.length : Int)) (PO.lenS Tryz.underlying24 rfl h0.len) rfl ?_
 refine Pu (.bool (decide (x24 < (a0.length : Int)))) (PO.lss rfl rfl) rfl ?_
 refine Nt ?_
 refine WC.cond (b := decide (x24 < (a0.length : Int))) rfl (fun hb25 => ?_) (fun hb25 => ?_)
 have h := ite_t hb25 h
 refine WC.skip ?_
 refine WQ.thenC ?_
 obtain ⟨j26, hj26, h⟩ := bnd h
 refine WC.joinE (fun (_ : Unit) ρ' M' H' => M23.le M' ∧ F = H' ∧ ρ' 0 = v0 ∧ ρ' 3 = (.int .i64 x24)) j26 ?_ ?_
 have h326 := h
 have h := hj26
 refine WC.block ?_
 refine WC.seq ?_
 obtain ⟨x27, hj28, h⟩ := bnd h
 refine WC.joinF (fun (x27 : Bool) ρ' M' H' => M23.le M' ∧ F = H' ∧ ρ' 0 = v0 ∧ ρ' 3 = (.int .i64 x24) ∧ ρ' 25 = (.bool x27)) x27 ?_ ?_
 have h328 := h
 have h := hj28
 refine WC.region ?_
 refine Pm v0 hs23_0 rfl ?_
 refine Pm (.int .i64 x24) hs23_3 rfl ?_
 obtain ⟨hg29, h⟩ := grd_i h
 obtain ⟨p30, cs31, hat32, hrc33, hhas34⟩ := h0.at hg29.1 hg29.2 (by decide)
 obtain rfl := hrc33
 refine Pu (.pointer (some p30)) (PO.indexAddr (n := a0.length) Tryz.underlying24 sz3 rfl rfl hg29.1 hg29.2 hat32) rfl ?_
 refine Pu (.int .i64 (rd a0 x24)) (PO.loadM pl3 rfl (IM.has0 hhas34)) rfl ?_
 refine Pu (.bool (decide ((rd a0 x24) < 1))) (PO.lss rfl rfl) rfl ?_
 refine Pm (.bool (decide ((rd a0 x24) < 1))) rfl rfl ?_
 rcases Bool.eq_false_or_eq_true (decide ((rd a0 x24) < 1)) with hb36 | hb36
 have h := ite_t hb36 h
 iterate 5 refine Of 19 rfl rfl hb36 rfl ?_
 refine Pu (.bool true) (PO.pickT rfl hb36 rfl) rfl ?_
 refine WL.nil ?_
 obtain rfl := Option.some.inj h
 refine WQ.thenJ ?_
 exact ⟨(IM.le.refl _), rfl, hs23_0, hs23_3, rfl⟩
 have h := ite_f hb36 h
 refine On 19 rfl rfl hb36 ?_
 refine Pm v0 hs23_0 rfl ?_
 refine On 19 rfl rfl hb36 ?_
 refine Pm (.int .i64 x24) hs23_3 rfl ?_
 refine On 19 rfl rfl hb36 ?_
 obtain ⟨hg37, h⟩ := grd_i h
 obtain ⟨p38, cs39, hat40, hrc41, hhas42⟩ := h0.at hg37.1 hg37.2 (by decide)
 obtain rfl := hrc41
 refine Pu (.pointer (some p38)) (PO.indexAddr (n := a0.length) Tryz.underlying24 sz3 rfl rfl hg37.1 hg37.2 hat40) rfl ?_
 refine On 19 rfl rfl hb36 ?_
 refine Pu (.int .i64 (rd a0 x24)) (PO.loadM pl3 rfl (IM.has0 hhas42)) rfl ?_
 refine On 19 rfl rfl hb36 ?_
 refine Pu (.bool (decide ((64 : Int) < (rd a0 x24)))) (PO.gtr rfl rfl) rfl ?_
 refine Pu (.bool (decide ((64 : Int) < (rd a0 x24)))) (PO.pickF rfl hb36 rfl) rfl ?_
 refine WL.nil ?_
 obtain rfl := Option.some.inj h
 refine WQ.thenJ ?_
 exact ⟨(IM.le.refl _), rfl, hs23_0, hs23_3, rfl⟩
 rintro ρ28 M28 H28 ⟨hle28, rfl, hs28_0, hs28_3, hs28_25⟩
 have h0 := h0.mono hle28
 refine WC.cond (b := x27) hs28_25 (fun hb44 => ?_) (fun hb44 => ?_)
 have h := ite_t hb44 h
 refine Sr ?_
 refine Pa (.bool false) rfl rfl ?_
 refine Nt ?_
 refine WC.ret ?_
 refine WQ.thenR ?_
 refine WQ.blockR ?_
 refine WQ.thenR ?_
 have h := KK.early h h326
 refine WQ.leaveR (Sum.inr ()) (Option.some.inj h).symm (fun heq23 => ?_)
 subst heq23
 have h := (elimR hK23)
 refine WQ.blockR ?_
 refine WQ.thenR ?_
 have h := KK.early h h322
 exact WQ.returnsF h [] rfl (results1 rfl rfl) (hle23.trans hle28) ⟨rfl, rfl⟩
 have h := ite_f hb44 h
 refine WC.skip ?_
 refine WQ.thenC ?_
 refine Sr ?_
 refine Pa (.int .i64 0) rfl rfl ?_
 refine Nt ?_
 refine WC.block ?_
 obtain ⟨e45, he45, hK45⟩ := bnd h
 clear h
 refine WC.loop he45 (fun (x46 : Int) ρ' M' H' => M28.le M' ∧ F = H' ∧ ρ' 0 = v0 ∧ ρ' 3 = (.int .i64 x24) ∧ ρ' 4 = (.int .i64 x46)) ?_ ?_
 exact ⟨(IM.le.refl _), rfl, hs28_0, hs28_3, rfl⟩
 rintro x46 o45 ρ45 M45 H45 h ⟨hle45, rfl, hs45_0, hs45_3, hs45_4⟩
 unfold f_ref05_Brokers_l1 at h
 have h0 := h0.mono hle45
 refine WC.seq ?_
 refine Sr ?_
 refine Pm (.int .i64 x46) hs45_4 rfl ?_
 refine Pm (.int .i64 x24) hs45_3 rfl ?_
 refine Pu (.bool (decide (x46 < x24))) (PO.lss rfl rfl) rfl ?_
 refine Nt ?_
 refine WC.cond (b := decide (x46 < x24)) rfl (fun hb47 => ?_) (fun hb47 => ?_)
 have h := ite_t hb47 h
 refine WC.skip ?_
 refine WQ.thenC ?_
 refine WC.seq ?_
 refine WC.block ?_
 refine WC.seq ?_
 refine WC.draw [0, 0, 3, 7, 0, 0, 48, 112, 255] (.pure 0 (.pure 1 (.pure 2 (.pure 3 (.pure 4 (.pure 5 (.pure 6 (.pure 7 (.pure 8 .done))))))))) mixed (by kernel_rfl) ?_
 refine Tp v0 rfl (PO.move hs45_0) rfl ?_
 refine Tp (.int .i64 x46) rfl (PO.move hs45_4) rfl ?_
 obtain ⟨hg48, h⟩ := grd_i h
 obtain ⟨p49, cs50, hat51, hrc52, hhas53⟩ := h0.at hg48.1 hg48.2 (by decide)
 obtain rfl := hrc52
 refine Tp (.pointer (some p49)) rfl (PO.indexAddr (n := a0.length) Tryz.underlying24 sz3 rfl rfl hg48.1 hg48.2 hat51) rfl ?_
 refine Tp (.int .i64 (rd a0 x46)) rfl (PO.loadM pl3 rfl (IM.has0 hhas53)) rfl ?_
 refine Tp v0 rfl (PO.move hs45_0) rfl ?_
 refine Tp (.int .i64 x24) rfl (PO.move hs45_3) rfl ?_
 obtain ⟨hg55, h⟩ := grd_i h
 obtain ⟨p56, cs57, hat58, hrc59, hhas60⟩ := h0.at hg55.1 hg55.2 (by decide)
 obtain rfl := hrc59
 refine Tp (.pointer (some p56)) rfl (PO.indexAddr (n := a0.length) Tryz.underlying24 sz3 rfl rfl hg55.1 hg55.2 hat58) rfl ?_
 refine Tp (.int .i64 (rd a0 x24)) rfl (PO.loadM pl3 rfl (IM.has0 hhas60)) rfl ?_
 refine Tp (.bool (decide ((rd a0 x46) = (rd a0 x24)))) rfl (PO.eql rfl rfl) rfl ?_
 refine WT.fin ?_
 refine WQ.thenC ?_
 refine WC.cond (b := decide ((rd a0 x46) = (rd a0 x24))) rfl (fun hb62 => ?_) (fun hb62 => ?_)
 have h := ite_t hb62 h
 refine Sr ?_
 refine Pa (.bool false) rfl rfl ?_
 refine Nt ?_
 refine WC.ret ?_
 refine WQ.blockR ?_
 refine WQ.thenR ?_
 refine WQ.leaveR (Sum.inr ()) (Option.some.inj h).symm (fun heq45 => ?_)
 subst heq45
 have h := (elimR hK45)
 refine WQ.blockR ?_
 refine WQ.blockR ?_
 refine WQ.thenR ?_
 have h := KK.early h h326
 refine WQ.leaveR (Sum.inr ()) (Option.some.inj h).symm (fun heq23 => ?_)
 subst heq23
 have h := (elimR hK23)
 refine WQ.blockR ?_
 refine WQ.thenR ?_
 have h := KK.early h h322
 exact WQ.returnsF h [] rfl (results1 rfl rfl) ((hle23.trans hle28).trans hle45) ⟨rfl, rfl⟩
 have h := ite_f hb62 h
 refine WC.skip ?_
 refine WQ.blockN ?_
 refine WQ.thenC ?_
 refine WC.region ?_
 refine Pm (.int .i64 x46) hs45_4 rfl ?_
 refine Pu (.int .i64 (IntKind.i64.wrap (x46 + 1))) (PO.add rfl rfl) rfl ?_
 refine Pa (.int .i64 (IntKind.i64.wrap (x46 + 1))) rfl rfl ?_
 refine WL.nil ?_
 refine WQ.again (IntKind.i64.wrap (x46 + 1)) (Option.some.inj h).symm ?_
 exact ⟨hle45, rfl, hs45_0, hs45_3, rfl⟩
 have h := ite_f hb47 h
 refine WC.exit ?_
 refine WQ.thenE ?_
 refine WQ.leaveE (Sum.inl ()) (Option.some.inj h).symm (fun heq45 => ?_)
 subst heq45
 have h := elimL hK45
 refine WQ.blockH ?_
 refine WQ.blockN ?_
 refine WQ.thenFE h ?_
 exact ⟨(hle28.trans hle45), rfl, hs45_0, hs45_3⟩
 rintro _ ρ26 M26 H26 rfl ⟨hle26, rfl, hs26_0, hs26_3⟩
 have h0 := h0.mono hle26
 refine WC.region ?_
 refine Pm (.int .i64 x24) hs26_3 rfl ?_
 refine Pu (.int .i64 (IntKind.i64.wrap (x24 + 1))) (PO.add rfl rfl) rfl ?_
 refine Pa (.int .i64 (IntKind.i64.wrap (x24 + 1))) rfl rfl ?_
 refine WL.nil ?_
 refine WQ.again (IntKind.i64.wrap (x24 + 1)) (Option.some.inj h).symm ?_
 exact ⟨(hle23.trans hle26), rfl, hs26_0, rfl⟩
 have h := ite_f hb25 h
 refine WC.exit ?_
 refine WQ.thenE ?_
 refine WQ.leaveE (Sum.inl ()) (Option.some.inj h).symm (fun heq23 => ?_)
 subst heq23
 have h := elimL hK23
 refine WQ.blockH ?_
 refine WQ.thenFE h ?_
 exact ⟨hle23, rfl⟩
 rintro _ ρ22 M22 H22 rfl ⟨hle22, rfl⟩
 refine Sr ?_
 refine Pa (.bool true) rfl rfl ?_
 refine Nt ?_
 refine WC.ret ?_
 exact WQ.returnsF h [] rfl (results1 rfl rfl) hle22 ⟨rfl, rfl⟩


end Go.Proofs.YtjgnbbakamellaaGreatDoor.G
