/- Go functions: what they come to, and that they do. Printed by a program of the session (gen). -/
import Derived.Test.YtjiffdgidodebaaGreatDoorRF
import Derived.Test.YtjiffdgidodebaaGreatDoorR8
import Derived.Test.YtjiffdgidodebaaGreatDoorKShar2
import Derived.Test.YtjiffdgidodebaaGreatDoorKConv
import Derived.Test.YtjiffdgidodebaaGreatDoorKTight
set_option linter.unusedVariables false
set_option linter.unusedSimpArgs false
set_option maxHeartbeats 8000000
set_option maxRecDepth 100000
namespace Go.Proofs.YtjiffdgidodebaaGreatDoor.G
open Go Go.KK

noncomputable def f_ref05_Cursor_Int (a0 : T_ref05_Cursor) (a1 : Int) : Option (Int × Int × Int × ByteArray × Int) :=
  ((((f_ref02_Read a0.B a0.S (⟨(1 : Int), a1, (0 : Int)⟩ : T_ref02_Ask)).bind fun (r30, r31) => (some (r30, r31.Num, r31.Flag, r31.Text, r31.Row))) : Option (T_ref02_State × Int × Bool × (List Int) × (List Int))).bind fun (x22, x24, x25, x26, x27) => (some (IntKind.i64.wrap x24, x22.At, x22.Code, x22.Op, x22.Where)))
def f_ref05_Cursor_Int_post (a0 : T_ref05_Cursor) (a1 : Int) (v0_0 : Value) (g0 : Nat) : (Int × Int × Int × ByteArray × Int) → Value → IM → HL → Prop :=
  fun (p_ : (Int × Int × Int × ByteArray × Int)) (v : Value) (M' : IM) (H' : HL) => match p_ with | (r0, r1, r2, r3, r4) => (.int .i64 r0) = v ∧ H' = [[(g0, .cells #[v0_0, (.int .i64 r1), (.int .i64 r2), (.string r3), (.int .i64 r4)] 57 (0, 0))]]
theorem f_ref05_Cursor_Int_ok (a0 : T_ref05_Cursor) (a1 : Int) (M : IM) (v0_0 : Value) (g0 : Nat) (h0_0 : RS (Kd.int .u8) M v0_0 a0.B) (res : (Int × Int × Int × ByteArray × Int)) (h : f_ref05_Cursor_Int a0 a1 = some res) :
    Tri Tryz.prog 47 #[(pt g0 0), (Iv a1)] M [[(g0, .cells (l57 a0 v0_0).toArray 57 (0, 0))]] (f_ref05_Cursor_Int_post a0 a1 v0_0 g0 res) := by
 unfold f_ref05_Cursor_Int at h
 refine Te Tryz.func47 rfl rfl ?_
 intro F ρ hρ
 refine Sr (Pa (Iv 0) rfl rfl (Nt ?_))
 obtain ⟨j28, hj28, h⟩ := bnd h
 refine Jf (fun (p_ : (T_ref02_State × Int × Bool × (List Int) × (List Int))) ρ' M' H' => match p_ with | (x22, x24, x25, x26, x27) => ∃ g21 g23 vx26 vx27 cx27, M.le M' ∧ [(g0, .cells (l57 a0 v0_0).toArray 57 (0, 0))] :: [(g21, .cells (l50 x22).toArray 50 (0, 0))] :: [(g23, .cells #[(Uv x24), (Bv x25), vx26, vx27] 128 (0, 0))] :: cx27 :: F = H' ∧ ρ' 0 = (pt g0 0) ∧ ρ' 5 = (pt g21 0) ∧ ρ' 6 = (pt g23 0) ∧ RS (Kd.int .u8) M' vx26 x26 ∧ OwnS (Kd.int .i64) M' vx27 x27 cx27) j28 ?_ ?_
 have h328 := h
 have h := hj28
 refine WC.draw [0, 1, 3, 7, 0, 16, 48, 112, 0, 256, 1023, 2047, 4095, 4095, 0, 0, 57343, 131071] (.pure 0 (.pure 1 (.pure 2 (.pure 3 (.pure 4 (.pure 5 (.pure 6 (.pure 7 (.pure 8 (.pure 9 (.alt 10 (.pure 11 (.pure 12 (.pure 13 (.alt 14 (.alt 15 (.alt 16 (.alt 17 .done .none) .none) .none) (.alt 15 (.alt 14 (.alt 16 (.alt 17 .done .none) .none) .none) .none))))) (.alt 14 (.alt 10 (.pure 11 (.pure 12 (.pure 13 (.alt 15 (.alt 16 (.alt 17 .done .none) .none) .none)))) (.alt 15 (.alt 10 (.pure 11 (.pure 12 (.pure 13 (.alt 16 (.alt 17 .done .none) .none)))) .none) .none)) (.alt 15 (.alt 10 (.pure 11 (.pure 12 (.pure 13 (.alt 14 (.alt 16 (.alt 17 .done .none) .none) .none)))) (.alt 14 (.alt 10 (.pure 11 (.pure 12 (.pure 13 (.alt 16 (.alt 17 .done .none) .none)))) .none) .none)) .none))))))))))))) mixed (by kernel_rfl) (Tp (pt g0 0) rfl (Mv (hρ 0)) rfl (Tp (pt g0 0) rfl (Nk rfl) rfl (Tp (pt g0 0) rfl (Fa fo57_0 rfl rfl) rfl (Tp v0_0 rfl (Lb 0 pl40 rfl rfl rfl) rfl (Tp (pt g0 0) rfl (Mv (hρ 0)) rfl (Tp (pt g0 0) rfl (Nk rfl) rfl (Tp (pt g0 1) rfl (Fa fo57_1 rfl rfl) rfl (Tp (a50_ a0.S) rfl (La (cs := (l50 a0.S)) 0 ag50 sz50 rfl rfl rfl) rfl (Tp (Iv a1) rfl (Mv (hρ 1)) rfl (Tp (.agg #[(Iv 1), (Iv a1), (Iv 0)]) rfl (Bl (cl := [(Iv 1), (Iv a1), (Iv 0)]) ze132 fp132 (Pc (Iv 1) rfl rfl (Pc (Iv a1) rfl rfl Pz)) rfl) rfl ?_))))))))))
 have hk29 := h
 obtain ⟨⟨r30, r31⟩, hr32, h⟩ := bnd h
 refine Ta rfl (Ca co87 (f_ref02_Read_ok a0.B a0.S (⟨(1 : Int), a1, (0 : Int)⟩ : T_ref02_Ask) _ _ h0_0 (r30, r31) hr32) (args3 rfl rfl rfl)) rfl ?_ ?_
 rintro _ M33 _ hle34 ⟨_, ⟨vq36_2, vq36_3, cq36_3, rfl, rfl, hq36_2, hq36_3⟩, rfl⟩
 refine ⟨(Sl rfl), ?_⟩
 refine WT.a1 (Tp (.tuple #[(a50_ r30), (a128_ r31 vq36_2 vq36_3)]) rfl (Mv rfl) rfl (Tp (a50_ r30) rfl (Xt rfl rfl) rfl (Tp (a128_ r31 vq36_2 vq36_3) rfl (Xt rfl rfl) rfl ?_)))
 have hk37 := h
 refine Ta rfl (Al ze50 rfl) rfl ?_ ?_
 rintro _ _ _ - ⟨rfl, g38, rfl, rfl⟩
 refine ⟨(Ss rfl (Xt rfl rfl) rfl (Ss rfl (Xt rfl rfl) rfl (Ss rfl (Mv rfl) rfl (Ss rfl (Bl (cl := [(Iv 1), (Iv a1), (Iv 0)]) ze132 fp132 (Pc (Iv 1) rfl rfl (Pc (Iv a1) rfl rfl Pz)) rfl) rfl (Ss rfl (Mv (hρ 1)) rfl (Ss rfl (La (cs := (l50 a0.S)) 2 ag50 sz50 rfl rfl rfl) rfl (Ss rfl (Fa fo57_1 rfl rfl) rfl (Ss rfl (Nk rfl) rfl (Ss rfl (Mv (hρ 0)) rfl (Ss rfl (Lb 2 pl40 rfl rfl rfl) rfl (Ss rfl (Fa fo57_0 rfl rfl) rfl (Ss rfl (Nk rfl) rfl (Ss rfl (Mv (hρ 0)) rfl trivial))))))))))))), ?_⟩
 refine Ta rfl (Al ze128 rfl) rfl ?_ ?_
 rintro _ _ _ - ⟨rfl, g39, rfl, rfl⟩
 refine ⟨(Ss rfl (Xt rfl rfl) rfl (Ss rfl (Xt rfl rfl) rfl (Ss rfl (Mv rfl) rfl (Ss rfl (Bl (cl := [(Iv 1), (Iv a1), (Iv 0)]) ze132 fp132 (Pc (Iv 1) rfl rfl (Pc (Iv a1) rfl rfl Pz)) rfl) rfl (Ss rfl (Mv (hρ 1)) rfl (Ss rfl (La (cs := (l50 a0.S)) 3 ag50 sz50 rfl rfl rfl) rfl (Ss rfl (Fa fo57_1 rfl rfl) rfl (Ss rfl (Nk rfl) rfl (Ss rfl (Mv (hρ 0)) rfl (Ss rfl (Lb 3 pl40 rfl rfl rfl) rfl (Ss rfl (Fa fo57_0 rfl rfl) rfl (Ss rfl (Nk rfl) rfl (Ss rfl (Mv (hρ 0)) rfl trivial))))))))))))), ?_⟩
 refine WT.f1 (Ta rfl (Sg (v := (a50_ r30)) (vl := (l50 r30)) (arr' := (l50 r30)) rfl sz50 rfl rfl (onb rfl) rfl rfl rfl) rfl ?_ ?_)
 rintro _ _ _ - ⟨rfl, rfl⟩
 refine ⟨(Ss rfl (Xt rfl rfl) rfl (Sl rfl)), ?_⟩
 refine WT.f1 (Ta rfl (Sg (v := (a128_ r31 vq36_2 vq36_3)) (vl := (l128 r31 vq36_2 vq36_3)) (arr' := (l128 r31 vq36_2 vq36_3)) rfl sz128 rfl rfl (onesOf (Oc rfl (Oc rfl (Oc (RS.one hq36_2) (Oc (Ow hq36_3) Oz))))) rfl rfl rfl) rfl ?_ ?_)
 rintro _ _ _ - ⟨rfl, rfl⟩
 refine ⟨(Sl rfl), ?_⟩
 refine Ti (Qb (Qa (Qb (WQ.f3 ?_))))
 obtain rfl := oi h
 exact Tj ⟨g38, g39, vq36_2, vq36_3, cq36_3, hle34, rfl, (hρ 0), rfl, rfl, hq36_2, hq36_3⟩
 exact Tz
 exact Tz
 exact Tz
 have h := hk37
 refine Ta rfl (Al ze128 rfl) rfl ?_ ?_
 rintro _ _ _ - ⟨rfl, g40, rfl, rfl⟩
 refine ⟨(Ss rfl (Xt rfl rfl) rfl (Ss rfl (Xt rfl rfl) rfl (Ss rfl (Mv rfl) rfl (Ss rfl (Bl (cl := [(Iv 1), (Iv a1), (Iv 0)]) ze132 fp132 (Pc (Iv 1) rfl rfl (Pc (Iv a1) rfl rfl Pz)) rfl) rfl (Ss rfl (Mv (hρ 1)) rfl (Ss rfl (La (cs := (l50 a0.S)) 2 ag50 sz50 rfl rfl rfl) rfl (Ss rfl (Fa fo57_1 rfl rfl) rfl (Ss rfl (Nk rfl) rfl (Ss rfl (Mv (hρ 0)) rfl (Ss rfl (Lb 2 pl40 rfl rfl rfl) rfl (Ss rfl (Fa fo57_0 rfl rfl) rfl (Ss rfl (Nk rfl) rfl (Ss rfl (Mv (hρ 0)) rfl trivial))))))))))))), ?_⟩
 refine Ta rfl (Al ze50 rfl) rfl ?_ ?_
 rintro _ _ _ - ⟨rfl, g41, rfl, rfl⟩
 refine ⟨(Ss rfl (Xt rfl rfl) rfl (Ss rfl (Xt rfl rfl) rfl (Ss rfl (Mv rfl) rfl (Ss rfl (Bl (cl := [(Iv 1), (Iv a1), (Iv 0)]) ze132 fp132 (Pc (Iv 1) rfl rfl (Pc (Iv a1) rfl rfl Pz)) rfl) rfl (Ss rfl (Mv (hρ 1)) rfl (Ss rfl (La (cs := (l50 a0.S)) 3 ag50 sz50 rfl rfl rfl) rfl (Ss rfl (Fa fo57_1 rfl rfl) rfl (Ss rfl (Nk rfl) rfl (Ss rfl (Mv (hρ 0)) rfl (Ss rfl (Lb 3 pl40 rfl rfl rfl) rfl (Ss rfl (Fa fo57_0 rfl rfl) rfl (Ss rfl (Nk rfl) rfl (Ss rfl (Mv (hρ 0)) rfl trivial))))))))))))), ?_⟩
 refine Ta rfl (Sg (v := (a50_ r30)) (vl := (l50 r30)) (arr' := (l50 r30)) rfl sz50 rfl rfl (onb rfl) rfl rfl rfl) rfl ?_ ?_
 rintro _ _ _ - ⟨rfl, rfl⟩
 refine ⟨(Ss rfl (Xt rfl rfl) rfl (Sl rfl)), ?_⟩
 refine WT.f1 (Ta rfl (Sg (v := (a128_ r31 vq36_2 vq36_3)) (vl := (l128 r31 vq36_2 vq36_3)) (arr' := (l128 r31 vq36_2 vq36_3)) rfl sz128 rfl rfl (onesOf (Oc rfl (Oc rfl (Oc (RS.one hq36_2) (Oc (Ow hq36_3) Oz))))) rfl rfl rfl) rfl ?_ ?_)
 rintro _ _ _ - ⟨rfl, rfl⟩
 refine ⟨(Sl rfl), ?_⟩
 refine Ti (Qb (Qa (Qb (WQ.f3 ?_))))
 obtain rfl := oi h
 exact Tj ⟨g41, g40, vq36_2, vq36_3, cq36_3, hle34, rfl, (hρ 0), rfl, rfl, hq36_2, hq36_3⟩
 exact Tz
 exact Tz
 exact Tz
 exact Tz
 have h := hk29
 have hk42 := h
 refine Ta rfl (Al ze50 rfl) rfl ?_ ?_
 rintro _ _ _ - ⟨rfl, g43, rfl, rfl⟩
 refine ⟨(Ss rfl (Bl (cl := [(Iv 1), (Iv a1), (Iv 0)]) ze132 fp132 (Pc (Iv 1) rfl rfl (Pc (Iv a1) rfl rfl Pz)) rfl) rfl (Ss rfl (Mv (hρ 1)) rfl (Ss rfl (La (cs := (l50 a0.S)) 1 ag50 sz50 rfl rfl rfl) rfl (Ss rfl (Fa fo57_1 rfl rfl) rfl (Ss rfl (Nk rfl) rfl (Ss rfl (Mv (hρ 0)) rfl (Ss rfl (Lb 1 pl40 rfl rfl rfl) rfl (Ss rfl (Fa fo57_0 rfl rfl) rfl (Ss rfl (Nk rfl) rfl (Ss rfl (Mv (hρ 0)) rfl trivial)))))))))), ?_⟩
 have hk44 := h
 obtain ⟨⟨r45, r46⟩, hr47, h⟩ := bnd h
 refine Ta rfl (Ca co87 (f_ref02_Read_ok a0.B a0.S (⟨(1 : Int), a1, (0 : Int)⟩ : T_ref02_Ask) _ _ h0_0 (r45, r46) hr47) (args3 rfl rfl rfl)) rfl ?_ ?_
 rintro _ M48 _ hle49 ⟨_, ⟨vq51_2, vq51_3, cq51_3, rfl, rfl, hq51_2, hq51_3⟩, rfl⟩
 refine ⟨(Sl rfl), ?_⟩
 refine WT.a1 (Tp (.tuple #[(a50_ r45), (a128_ r46 vq51_2 vq51_3)]) rfl (Mv rfl) rfl (Tp (a50_ r45) rfl (Xt rfl rfl) rfl (Tp (a128_ r46 vq51_2 vq51_3) rfl (Xt rfl rfl) rfl (Ta rfl (Al ze128 rfl) rfl ?_ ?_))))
 rintro _ _ _ - ⟨rfl, g52, rfl, rfl⟩
 refine ⟨(Ss rfl (Xt rfl rfl) rfl (Ss rfl (Xt rfl rfl) rfl (Ss rfl (Mv rfl) rfl (Ss rfl (Bl (cl := [(Iv 1), (Iv a1), (Iv 0)]) ze132 fp132 (Pc (Iv 1) rfl rfl (Pc (Iv a1) rfl rfl Pz)) rfl) rfl (Ss rfl (Mv (hρ 1)) rfl (Ss rfl (La (cs := (l50 a0.S)) 3 ag50 sz50 rfl rfl rfl) rfl (Ss rfl (Fa fo57_1 rfl rfl) rfl (Ss rfl (Nk rfl) rfl (Ss rfl (Mv (hρ 0)) rfl (Ss rfl (Lb 3 pl40 rfl rfl rfl) rfl (Ss rfl (Fa fo57_0 rfl rfl) rfl (Ss rfl (Nk rfl) rfl (Ss rfl (Mv (hρ 0)) rfl trivial))))))))))))), ?_⟩
 refine WT.f2 (Ta rfl (Sg (v := (a50_ r45)) (vl := (l50 r45)) (arr' := (l50 r45)) rfl sz50 rfl rfl (onb rfl) rfl rfl rfl) rfl ?_ ?_)
 rintro _ _ _ - ⟨rfl, rfl⟩
 refine ⟨(Ss rfl (Xt rfl rfl) rfl (Sl rfl)), ?_⟩
 refine WT.f1 (Ta rfl (Sg (v := (a128_ r46 vq51_2 vq51_3)) (vl := (l128 r46 vq51_2 vq51_3)) (arr' := (l128 r46 vq51_2 vq51_3)) rfl sz128 rfl rfl (onesOf (Oc rfl (Oc rfl (Oc (RS.one hq51_2) (Oc (Ow hq51_3) Oz))))) rfl rfl rfl) rfl ?_ ?_)
 rintro _ _ _ - ⟨rfl, rfl⟩
 refine ⟨(Sl rfl), ?_⟩
 refine Ti (Qb (Qa (Qb (WQ.f3 ?_))))
 obtain rfl := oi h
 exact Tj ⟨g43, g52, vq51_2, vq51_3, cq51_3, hle49, rfl, (hρ 0), rfl, rfl, hq51_2, hq51_3⟩
 exact Tz
 exact Tz
 exact Tz
 have h := hk44
 refine Ta rfl (Al ze128 rfl) rfl ?_ ?_
 rintro _ _ _ - ⟨rfl, g53, rfl, rfl⟩
 refine ⟨(Ss rfl (Bl (cl := [(Iv 1), (Iv a1), (Iv 0)]) ze132 fp132 (Pc (Iv 1) rfl rfl (Pc (Iv a1) rfl rfl Pz)) rfl) rfl (Ss rfl (Mv (hρ 1)) rfl (Ss rfl (La (cs := (l50 a0.S)) 2 ag50 sz50 rfl rfl rfl) rfl (Ss rfl (Fa fo57_1 rfl rfl) rfl (Ss rfl (Nk rfl) rfl (Ss rfl (Mv (hρ 0)) rfl (Ss rfl (Lb 2 pl40 rfl rfl rfl) rfl (Ss rfl (Fa fo57_0 rfl rfl) rfl (Ss rfl (Nk rfl) rfl (Ss rfl (Mv (hρ 0)) rfl trivial)))))))))), ?_⟩
 obtain ⟨⟨r54, r55⟩, hr56, h⟩ := bnd h
 refine Ta rfl (Ca co87 (f_ref02_Read_ok a0.B a0.S (⟨(1 : Int), a1, (0 : Int)⟩ : T_ref02_Ask) _ _ h0_0 (r54, r55) hr56) (args3 rfl rfl rfl)) rfl ?_ ?_
 rintro _ M57 _ hle58 ⟨_, ⟨vq60_2, vq60_3, cq60_3, rfl, rfl, hq60_2, hq60_3⟩, rfl⟩
 refine ⟨(Sl rfl), ?_⟩
 refine WT.a1 (Tp (.tuple #[(a50_ r54), (a128_ r55 vq60_2 vq60_3)]) rfl (Mv rfl) rfl (Tp (a50_ r54) rfl (Xt rfl rfl) rfl (Tp (a128_ r55 vq60_2 vq60_3) rfl (Xt rfl rfl) rfl (WT.f2 (Ta rfl (Sg (v := (a50_ r54)) (vl := (l50 r54)) (arr' := (l50 r54)) rfl sz50 rfl rfl (onb rfl) rfl rfl rfl) rfl ?_ ?_)))))
 rintro _ _ _ - ⟨rfl, rfl⟩
 refine ⟨(Ss rfl (Xt rfl rfl) rfl (Sl rfl)), ?_⟩
 refine WT.f2 (Ta rfl (Sg (v := (a128_ r55 vq60_2 vq60_3)) (vl := (l128 r55 vq60_2 vq60_3)) (arr' := (l128 r55 vq60_2 vq60_3)) rfl sz128 rfl rfl (onesOf (Oc rfl (Oc rfl (Oc (RS.one hq60_2) (Oc (Ow hq60_3) Oz))))) rfl rfl rfl) rfl ?_ ?_)
 rintro _ _ _ - ⟨rfl, rfl⟩
 refine ⟨(Sl rfl), ?_⟩
 refine Ti (Qb (Qa (Qb (WQ.f3 ?_))))
 obtain rfl := oi h
 exact Tj ⟨g43, g53, vq60_2, vq60_3, cq60_3, hle58, rfl, (hρ 0), rfl, rfl, hq60_2, hq60_3⟩
 exact Tz
 exact Tz
 exact Tz
 exact Tz
 have h := hk42
 refine Ta rfl (Al ze128 rfl) rfl ?_ ?_
 rintro _ _ _ - ⟨rfl, g61, rfl, rfl⟩
 refine ⟨(Ss rfl (Bl (cl := [(Iv 1), (Iv a1), (Iv 0)]) ze132 fp132 (Pc (Iv 1) rfl rfl (Pc (Iv a1) rfl rfl Pz)) rfl) rfl (Ss rfl (Mv (hρ 1)) rfl (Ss rfl (La (cs := (l50 a0.S)) 1 ag50 sz50 rfl rfl rfl) rfl (Ss rfl (Fa fo57_1 rfl rfl) rfl (Ss rfl (Nk rfl) rfl (Ss rfl (Mv (hρ 0)) rfl (Ss rfl (Lb 1 pl40 rfl rfl rfl) rfl (Ss rfl (Fa fo57_0 rfl rfl) rfl (Ss rfl (Nk rfl) rfl (Ss rfl (Mv (hρ 0)) rfl trivial)))))))))), ?_⟩
 have hk62 := h
 obtain ⟨⟨r63, r64⟩, hr65, h⟩ := bnd h
 refine Ta rfl (Ca co87 (f_ref02_Read_ok a0.B a0.S (⟨(1 : Int), a1, (0 : Int)⟩ : T_ref02_Ask) _ _ h0_0 (r63, r64) hr65) (args3 rfl rfl rfl)) rfl ?_ ?_
 rintro _ M66 _ hle67 ⟨_, ⟨vq69_2, vq69_3, cq69_3, rfl, rfl, hq69_2, hq69_3⟩, rfl⟩
 refine ⟨(Sl rfl), ?_⟩
 refine WT.a1 (Tp (.tuple #[(a50_ r63), (a128_ r64 vq69_2 vq69_3)]) rfl (Mv rfl) rfl (Tp (a50_ r63) rfl (Xt rfl rfl) rfl (Tp (a128_ r64 vq69_2 vq69_3) rfl (Xt rfl rfl) rfl (Ta rfl (Al ze50 rfl) rfl ?_ ?_))))
 rintro _ _ _ - ⟨rfl, g70, rfl, rfl⟩
 refine ⟨(Ss rfl (Xt rfl rfl) rfl (Ss rfl (Xt rfl rfl) rfl (Ss rfl (Mv rfl) rfl (Ss rfl (Bl (cl := [(Iv 1), (Iv a1), (Iv 0)]) ze132 fp132 (Pc (Iv 1) rfl rfl (Pc (Iv a1) rfl rfl Pz)) rfl) rfl (Ss rfl (Mv (hρ 1)) rfl (Ss rfl (La (cs := (l50 a0.S)) 3 ag50 sz50 rfl rfl rfl) rfl (Ss rfl (Fa fo57_1 rfl rfl) rfl (Ss rfl (Nk rfl) rfl (Ss rfl (Mv (hρ 0)) rfl (Ss rfl (Lb 3 pl40 rfl rfl rfl) rfl (Ss rfl (Fa fo57_0 rfl rfl) rfl (Ss rfl (Nk rfl) rfl (Ss rfl (Mv (hρ 0)) rfl trivial))))))))))))), ?_⟩
 refine Ta rfl (Sg (v := (a50_ r63)) (vl := (l50 r63)) (arr' := (l50 r63)) rfl sz50 rfl rfl (onb rfl) rfl rfl rfl) rfl ?_ ?_
 rintro _ _ _ - ⟨rfl, rfl⟩
 refine ⟨(Ss rfl (Xt rfl rfl) rfl (Sl rfl)), ?_⟩
 refine WT.f2 (Ta rfl (Sg (v := (a128_ r64 vq69_2 vq69_3)) (vl := (l128 r64 vq69_2 vq69_3)) (arr' := (l128 r64 vq69_2 vq69_3)) rfl sz128 rfl rfl (onesOf (Oc rfl (Oc rfl (Oc (RS.one hq69_2) (Oc (Ow hq69_3) Oz))))) rfl rfl rfl) rfl ?_ ?_)
 rintro _ _ _ - ⟨rfl, rfl⟩
 refine ⟨(Sl rfl), ?_⟩
 refine Ti (Qb (Qa (Qb (WQ.f3 ?_))))
 obtain rfl := oi h
 exact Tj ⟨g70, g61, vq69_2, vq69_3, cq69_3, hle67, rfl, (hρ 0), rfl, rfl, hq69_2, hq69_3⟩
 exact Tz
 exact Tz
 exact Tz
 have h := hk62
 refine Ta rfl (Al ze50 rfl) rfl ?_ ?_
 rintro _ _ _ - ⟨rfl, g71, rfl, rfl⟩
 refine ⟨(Ss rfl (Bl (cl := [(Iv 1), (Iv a1), (Iv 0)]) ze132 fp132 (Pc (Iv 1) rfl rfl (Pc (Iv a1) rfl rfl Pz)) rfl) rfl (Ss rfl (Mv (hρ 1)) rfl (Ss rfl (La (cs := (l50 a0.S)) 2 ag50 sz50 rfl rfl rfl) rfl (Ss rfl (Fa fo57_1 rfl rfl) rfl (Ss rfl (Nk rfl) rfl (Ss rfl (Mv (hρ 0)) rfl (Ss rfl (Lb 2 pl40 rfl rfl rfl) rfl (Ss rfl (Fa fo57_0 rfl rfl) rfl (Ss rfl (Nk rfl) rfl (Ss rfl (Mv (hρ 0)) rfl trivial)))))))))), ?_⟩
 obtain ⟨⟨r72, r73⟩, hr74, h⟩ := bnd h
 refine Ta rfl (Ca co87 (f_ref02_Read_ok a0.B a0.S (⟨(1 : Int), a1, (0 : Int)⟩ : T_ref02_Ask) _ _ h0_0 (r72, r73) hr74) (args3 rfl rfl rfl)) rfl ?_ ?_
 rintro _ M75 _ hle76 ⟨_, ⟨vq78_2, vq78_3, cq78_3, rfl, rfl, hq78_2, hq78_3⟩, rfl⟩
 refine ⟨(Sl rfl), ?_⟩
 refine WT.a1 (Tp (.tuple #[(a50_ r72), (a128_ r73 vq78_2 vq78_3)]) rfl (Mv rfl) rfl (Tp (a50_ r72) rfl (Xt rfl rfl) rfl (Tp (a128_ r73 vq78_2 vq78_3) rfl (Xt rfl rfl) rfl (WT.f1 (Ta rfl (Sg (v := (a50_ r72)) (vl := (l50 r72)) (arr' := (l50 r72)) rfl sz50 rfl rfl (onb rfl) rfl rfl rfl) rfl ?_ ?_)))))
 rintro _ _ _ - ⟨rfl, rfl⟩
 refine ⟨(Ss rfl (Xt rfl rfl) rfl (Sl rfl)), ?_⟩
 refine WT.f2 (Ta rfl (Sg (v := (a128_ r73 vq78_2 vq78_3)) (vl := (l128 r73 vq78_2 vq78_3)) (arr' := (l128 r73 vq78_2 vq78_3)) rfl sz128 rfl rfl (onesOf (Oc rfl (Oc rfl (Oc (RS.one hq78_2) (Oc (Ow hq78_3) Oz))))) rfl rfl rfl) rfl ?_ ?_)
 rintro _ _ _ - ⟨rfl, rfl⟩
 refine ⟨(Sl rfl), ?_⟩
 refine Ti (Qb (Qa (Qb (WQ.f3 ?_))))
 obtain rfl := oi h
 exact Tj ⟨g71, g61, vq78_2, vq78_3, cq78_3, hle76, rfl, (hρ 0), rfl, rfl, hq78_2, hq78_3⟩
 exact Tz
 exact Tz
 exact Tz
 exact Tz
 exact Tz
 obtain ⟨x22, x24, x25, x26, x27⟩ := j28
 rintro ρ28 M28 H28 ⟨g21, g23, vx26, vx27, cx27, hle28, rfl, hs28_0, hs28_5, hs28_6, hx26, hx27⟩
 refine Sr (Pm (pt g0 0) hs28_0 rfl (Pu (a50_ x22) (La (cs := (l50 x22)) 1 ag50 sz50 hs28_5 rfl rfl) rfl (Pu (pt g0 0) (Nk rfl) rfl (Pu (pt g0 1) (Fa fo57_1 rfl rfl) rfl (We (Sg (v := (a50_ x22)) (vl := (l50 x22)) (arr' := [v0_0, (Iv x22.At), (Iv x22.Code), (Sv x22.Op), (Iv x22.Where)]) rfl sz50 rfl rfl (onb rfl) rfl rfl rfl) rfl ?_)))))
 rintro _ _ _ - ⟨rfl, rfl⟩
 refine Ns (Pu (pt g23 0) (Fa fo128_0 hs28_6 rfl) rfl (Pu (Uv x24) (Lb 2 pl112 rfl rfl rfl) rfl (Pu (Iv (IntKind.i64.wrap x24)) (PO.conv us112 Tryz.underlying3 rfl) rfl (Pa (Iv (IntKind.i64.wrap x24)) rfl rfl (Nt (Cr (Qa (Dr (Qa (Dr (Qa ?_)))))))))))
 exact Dr (Rf h [[(g0, .cells #[v0_0, (Iv x22.At), (Iv x22.Code), (Sv x22.Op), (Iv x22.Where)] 57 (0, 0))]] rfl (Rs rfl rfl) hle28 ⟨rfl, rfl⟩)

noncomputable def f_ref05_Cursor_Refuse (a0 : T_ref05_Cursor) (a1 : ByteArray) (a2 : Int) : Option (Int × ByteArray × Int) :=
  (if (decide (a0.S.Code = (0 : Int))) = true then (some (a2, a1, a0.S.At)) else (some (a0.S.Code, a0.S.Op, a0.S.Where)))
def f_ref05_Cursor_Refuse_post (a0 : T_ref05_Cursor) (a1 : ByteArray) (a2 : Int) (v0_0 : Value) (g0 : Nat) : (Int × ByteArray × Int) → Value → IM → HL → Prop :=
  fun (p_ : (Int × ByteArray × Int)) (v : Value) (M' : IM) (H' : HL) => match p_ with | (r0, r1, r2) => (.tuple #[]) = v ∧ H' = [[(g0, .cells #[v0_0, (.int .i64 a0.S.At), (.int .i64 r0), (.string r1), (.int .i64 r2)] 57 (0, 0))]]
theorem f_ref05_Cursor_Refuse_ok (a0 : T_ref05_Cursor) (a1 : ByteArray) (a2 : Int) (M : IM) (v0_0 : Value) (g0 : Nat) (h0_0 : RS (Kd.int .u8) M v0_0 a0.B) (res : (Int × ByteArray × Int)) (h : f_ref05_Cursor_Refuse a0 a1 a2 = some res) :
    Tri Tryz.prog 48 #[(pt g0 0), (Sv a1), (Iv a2)] M [[(g0, .cells (l57 a0 v0_0).toArray 57 (0, 0))]] (f_ref05_Cursor_Refuse_post a0 a1 a2 v0_0 g0 res) := by
 unfold f_ref05_Cursor_Refuse at h
 refine Te Tryz.func48 rfl rfl ?_
 intro F ρ hρ
 refine Sr (Pm (pt g0 0) (hρ 0) rfl (Pu (pt g0 0) (Nk rfl) rfl (Pu (pt g0 1) (Fa fo57_1 rfl rfl) rfl (Pu (pt g0 2) (Fa fo50_1 rfl rfl) rfl (Pu (Iv a0.S.Code) (Lb 0 pl31 rfl rfl rfl) rfl (Pu (Bv (decide (a0.S.Code = 0))) (PO.eql rfl rfl) rfl (Nt (Cd (b := decide (a0.S.Code = 0)) rfl (fun hb21 => ?_) (fun hb21 => ?_)))))))))
 have h := ite_t hb21 h
 refine WC.draw [0, 0, 2, 6, 14, 30, 0, 0, 0, 256, 768, 1792, 3840, 8190, 16383, 32767, 65535] (.pure 0 (.pure 1 (.pure 2 (.pure 3 (.pure 4 (.pure 5 (.pure 6 (.pure 7 (.pure 8 (.pure 9 (.pure 10 (.pure 11 (.pure 12 (.pure 13 (.pure 14 (.pure 15 (.alt 16 .done .none))))))))))))))))) mixed (by kernel_rfl) (Tp (pt g0 0) rfl (Mv (hρ 0)) rfl (Tp (pt g0 0) rfl (Mv (hρ 0)) rfl (Tp (pt g0 0) rfl (Nk rfl) rfl (Tp (pt g0 1) rfl (Fa fo57_1 rfl rfl) rfl (Tp (pt g0 1) rfl (Fa fo50_0 rfl rfl) rfl (Tp (Iv a0.S.At) rfl (Lb 0 pl3 rfl rfl rfl) rfl (Tp (Iv a2) rfl (Mv (hρ 2)) rfl (Tp (Sv a1) rfl (Mv (hρ 1)) rfl (Tp (pt g0 0) rfl (Mv (hρ 0)) rfl (Tp (pt g0 0) rfl (Nk rfl) rfl (Tp (pt g0 1) rfl (Fa fo57_1 rfl rfl) rfl ?_)))))))))))
 refine Tp (pt g0 1) rfl (Fa fo50_0 rfl rfl) rfl (Tp (Iv a0.S.At) rfl (Lb 0 pl3 rfl rfl rfl) rfl (Tp (.agg #[(Iv a0.S.At), (Iv a2), (Sv a1), (Iv a0.S.At)]) rfl (Bl (cl := [(Iv a0.S.At), (Iv a2), (Sv a1), (Iv a0.S.At)]) ze50 fp50 (Pc (Iv a0.S.At) rfl rfl (Pc (Iv a2) rfl rfl (Pc (Sv a1) rfl rfl (Pc (Iv a0.S.At) rfl rfl Pz)))) rfl) rfl (Tp (pt g0 0) rfl (Nk rfl) rfl (Tp (pt g0 1) rfl (Fa fo57_1 rfl rfl) rfl (Ta rfl (Sg (v := (.agg #[(Iv a0.S.At), (Iv a2), (Sv a1), (Iv a0.S.At)])) (vl := [(Iv a0.S.At), (Iv a2), (Sv a1), (Iv a0.S.At)]) (arr' := [v0_0, (Iv a0.S.At), (Iv a2), (Sv a1), (Iv a0.S.At)]) rfl sz50 rfl rfl (onb rfl) rfl rfl rfl) rfl ?_ ?_)))))
 rintro _ _ _ - ⟨rfl, rfl⟩
 refine ⟨(Sl rfl), ?_⟩
 exact Ti (WQ.endsF h [[(g0, .cells #[v0_0, (Iv a0.S.At), (Iv a2), (Sv a1), (Iv a0.S.At)] 57 (0, 0))]] rfl (results0 rfl) lr ⟨rfl, rfl⟩)
 exact Tz
 have h := ite_f hb21 h
 exact Ck (WQ.endsF h [[(g0, .cells (l57 a0 v0_0).toArray 57 (0, 0))]] rfl (results0 rfl) lr ⟨rfl, rfl⟩)

noncomputable def f_ref05_has_l0 (a1 : Int) (x21 : ByteArray) (s_ : Int) : Option (Int ⊕ (Unit ⊕ Unit)) :=
  match s_ with
  | x38 =>
    (if (decide (x38 < (x21.size : Int))) = true then (grd (0 ≤ x38 ∧ x38 < x21.size) (if (decide ((btAt x21 x38) = a1)) = true then (some (Sum.inr (Sum.inr ()))) else (some (Sum.inl (IntKind.i64.wrap (x38 + (1 : Int))))))) else (some (Sum.inr (Sum.inl ()))))
noncomputable def f_ref05_has (a0 : Int) (a1 : Int) : Option Bool :=
  (((if (decide (a0 = (2 : Int))) = true then (some (⟨#[98, 101, 114]⟩ : ByteArray)) else (((if (decide (a0 = (3 : Int))) = true then (some (decide (a0 = (3 : Int)))) else (if (decide (a0 = (4 : Int))) = true then (some (decide (a0 = (4 : Int)))) else (if (decide (a0 = (5 : Int))) = true then (some (decide (a0 = (5 : Int)))) else (some (decide (a0 = (6 : Int))))))) : Option Bool).bind fun (x24 : Bool) => (if x24 = true then (some (⟨#[98, 101]⟩ : ByteArray)) else (if (decide (a0 = (7 : Int))) = true then (some (⟨#[116, 110]⟩ : ByteArray)) else (if (decide (a0 = (8 : Int))) = true then (some (⟨#[116, 112, 108, 105, 109]⟩ : ByteArray)) else (if (decide (a0 = (9 : Int))) = true then (some (⟨#[116, 101, 112, 108, 105, 109, 120]⟩ : ByteArray)) else (if (decide (a0 = (10 : Int))) = true then (some (⟨#[116, 107, 118, 102]⟩ : ByteArray)) else (if (decide (a0 = (11 : Int))) = true then (some (⟨#[116]⟩ : ByteArray)) else (if (decide (a0 = (12 : Int))) = true then (some (⟨#[97]⟩ : ByteArray)) else (some (⟨#[]⟩ : ByteArray))))))))))) : Option ByteArray).bind fun (x21 : ByteArray) => ((((iter (f_ref05_has_l0 a1 x21) (0 : Int)).bind (Sum.elim (fun _ => (some (Sum.inl ()))) (fun _ => (((some true)).bind fun r => some (Sum.inr r))))) : Option (Unit ⊕ Bool)).bind (Sum.elim (fun _ => (some false)) some)))
def f_ref05_has_post (a0 : Int) (a1 : Int) : Bool → Value → IM → HL → Prop :=
  fun (r0 : Bool) (v : Value) (M' : IM) (H' : HL) => (.bool r0) = v ∧ H' = []
theorem f_ref05_has_ok (a0 : Int) (a1 : Int) (M : IM) (res : Bool) (h : f_ref05_has a0 a1 = some res) :
    Tri Tryz.prog 61 #[(Iv a0), (Yv a1)] M [] (f_ref05_has_post a0 a1 res) := by
 unfold f_ref05_has at h
 refine Te Tryz.func61 rfl rfl ?_
 intro F ρ hρ
 refine Sr (Pa (Bv false) rfl rfl (Ns (Pa (Sv ⟨#[]⟩) rfl rfl (Nt ?_))))
 obtain ⟨x21, hj22, h⟩ := bnd h
 refine Jf (fun (x21 : ByteArray) ρ' M' H' => M.le M' ∧ F = H' ∧ ρ' 1 = (Yv a1) ∧ ρ' 5 = (Sv x21)) x21 ?_ ?_
 have h322 := h
 have h := hj22
 refine Sr (Pm (Iv a0) (hρ 0) rfl (Nt (Bk (Sr (Pu (Bv (decide (a0 = 2))) (PO.eql rfl rfl) rfl (Pa (Bv (decide (a0 = 2))) rfl rfl (Nt (Cd (b := decide (a0 = 2)) rfl (fun hb23 => ?_) (fun hb23 => ?_)))))))))
 have h := ite_t hb23 h
 refine Cg (Pa (Sv ⟨#[98, 101, 114]⟩) rfl rfl (Wz (Bn ?_)))
 obtain rfl := oi h
 exact Tj ⟨lr, rfl, (hρ 1), rfl⟩
 have h := ite_f hb23 h
 obtain ⟨x24, hj25, h⟩ := bnd h
 refine Jf (fun (x24 : Bool) ρ' M' H' => M.le M' ∧ F = H' ∧ ρ' 1 = (Yv a1) ∧ ρ' 5 = (Sv ⟨#[]⟩) ∧ ρ' 7 = (Iv a0) ∧ ρ' 10 = (Bv x24)) x24 ?_ ?_
 have h325 := h
 have h := hj25
 refine Sr (Pu (Bv (decide (a0 = 3))) (PO.eql rfl rfl) rfl (Pa (Bv (decide (a0 = 3))) rfl rfl (Nt (Cd (b := decide (a0 = 3)) rfl (fun hb26 => ?_) (fun hb26 => ?_)))))
 have h := ite_t hb26 h
 refine Ck ?_
 obtain rfl := oi h
 exact Tj ⟨lr, rfl, (hρ 1), rfl, rfl, rfl⟩
 have h := ite_f hb26 h
 refine Sr (Pu (Bv (decide (a0 = 4))) (PO.eql rfl rfl) rfl (Pa (Bv (decide (a0 = 4))) rfl rfl (Nt (Cd (b := decide (a0 = 4)) rfl (fun hb27 => ?_) (fun hb27 => ?_)))))
 have h := ite_t hb27 h
 refine Ck ?_
 obtain rfl := oi h
 exact Tj ⟨lr, rfl, (hρ 1), rfl, rfl, rfl⟩
 have h := ite_f hb27 h
 refine Sr (Pu (Bv (decide (a0 = 5))) (PO.eql rfl rfl) rfl (Pa (Bv (decide (a0 = 5))) rfl rfl (Nt (Cd (b := decide (a0 = 5)) rfl (fun hb28 => ?_) (fun hb28 => ?_)))))
 have h := ite_t hb28 h
 refine Ck ?_
 obtain rfl := oi h
 exact Tj ⟨lr, rfl, (hρ 1), rfl, rfl, rfl⟩
 have h := ite_f hb28 h
 refine Cg (Pu (Bv (decide (a0 = 6))) (PO.eql rfl rfl) rfl (Pa (Bv (decide (a0 = 6))) rfl rfl (Wz ?_)))
 obtain rfl := oi h
 exact Tj ⟨lr, rfl, (hρ 1), rfl, rfl, rfl⟩
 rintro ρ25 M25 H25 ⟨hle25, rfl, hs25_1, hs25_5, hs25_7, hs25_10⟩
 refine Cd (b := x24) hs25_10 (fun hb29 => ?_) (fun hb29 => ?_)
 have h := ite_t hb29 h
 refine Cg (Pa (Sv ⟨#[98, 101]⟩) rfl rfl (Wz (Bn ?_)))
 obtain rfl := oi h
 exact Tj ⟨hle25, rfl, hs25_1, rfl⟩
 have h := ite_f hb29 h
 refine Sr (Pu (Bv (decide (a0 = 7))) (PO.eql hs25_7 rfl) rfl (Pa (Bv (decide (a0 = 7))) rfl rfl (Nt (Cd (b := decide (a0 = 7)) rfl (fun hb30 => ?_) (fun hb30 => ?_)))))
 have h := ite_t hb30 h
 refine Cg (Pa (Sv ⟨#[116, 110]⟩) rfl rfl (Wz (Bn ?_)))
 obtain rfl := oi h
 exact Tj ⟨hle25, rfl, hs25_1, rfl⟩
 have h := ite_f hb30 h
 refine Sr (Pu (Bv (decide (a0 = 8))) (PO.eql hs25_7 rfl) rfl (Pa (Bv (decide (a0 = 8))) rfl rfl (Nt (Cd (b := decide (a0 = 8)) rfl (fun hb31 => ?_) (fun hb31 => ?_)))))
 have h := ite_t hb31 h
 refine Cg (Pa (Sv ⟨#[116, 112, 108, 105, 109]⟩) rfl rfl (Wz (Bn ?_)))
 obtain rfl := oi h
 exact Tj ⟨hle25, rfl, hs25_1, rfl⟩
 have h := ite_f hb31 h
 refine Sr (Pu (Bv (decide (a0 = 9))) (PO.eql hs25_7 rfl) rfl (Pa (Bv (decide (a0 = 9))) rfl rfl (Nt (Cd (b := decide (a0 = 9)) rfl (fun hb32 => ?_) (fun hb32 => ?_)))))
 have h := ite_t hb32 h
 refine Cg (Pa (Sv ⟨#[116, 101, 112, 108, 105, 109, 120]⟩) rfl rfl (Wz (Bn ?_)))
 obtain rfl := oi h
 exact Tj ⟨hle25, rfl, hs25_1, rfl⟩
 have h := ite_f hb32 h
 refine Sr (Pu (Bv (decide (a0 = 10))) (PO.eql hs25_7 rfl) rfl (Pa (Bv (decide (a0 = 10))) rfl rfl (Nt (Cd (b := decide (a0 = 10)) rfl (fun hb33 => ?_) (fun hb33 => ?_)))))
 have h := ite_t hb33 h
 refine Cg (Pa (Sv ⟨#[116, 107, 118, 102]⟩) rfl rfl (Wz (Bn ?_)))
 obtain rfl := oi h
 exact Tj ⟨hle25, rfl, hs25_1, rfl⟩
 have h := ite_f hb33 h
 refine Sr (Pu (Bv (decide (a0 = 11))) (PO.eql hs25_7 rfl) rfl (Pa (Bv (decide (a0 = 11))) rfl rfl (Nt (Cd (b := decide (a0 = 11)) rfl (fun hb34 => ?_) (fun hb34 => ?_)))))
 have h := ite_t hb34 h
 refine Cg (Pa (Sv ⟨#[116]⟩) rfl rfl (Wz (Bn ?_)))
 obtain rfl := oi h
 exact Tj ⟨hle25, rfl, hs25_1, rfl⟩
 have h := ite_f hb34 h
 refine Sr (Pu (Bv (decide (a0 = 12))) (PO.eql hs25_7 rfl) rfl (Pa (Bv (decide (a0 = 12))) rfl rfl (Nt (Cd (b := decide (a0 = 12)) rfl (fun hb35 => ?_) (fun hb35 => ?_)))))
 have h := ite_t hb35 h
 refine Cg (Pa (Sv ⟨#[97]⟩) rfl rfl (Wz (Bn ?_)))
 obtain rfl := oi h
 exact Tj ⟨hle25, rfl, hs25_1, rfl⟩
 have h := ite_f hb35 h
 refine Ck (Bn ?_)
 obtain rfl := oi h
 exact Tj ⟨hle25, rfl, hs25_1, hs25_5⟩
 rintro ρ22 M22 H22 ⟨hle22, rfl, hs22_1, hs22_5⟩
 obtain ⟨j36, hj36, h⟩ := bnd h
 refine WC.joinE (fun (_ : Unit) ρ' M' H' => M22.le M' ∧ F = H') j36 ?_ ?_
 have h336 := h
 have h := hj36
 refine Sr (Pa (Iv 0) rfl rfl (Nt (Bk ?_)))
 obtain ⟨e37, he37, hK37⟩ := bnd h
 clear h
 refine WC.loop he37 (fun (x38 : Int) ρ' M' H' => M22.le M' ∧ F = H' ∧ ρ' 1 = (Yv a1) ∧ ρ' 5 = (Sv x21) ∧ ρ' 6 = (Iv x38)) ?_ ?_
 exact ⟨lr, rfl, hs22_1, hs22_5, rfl⟩
 rintro x38 o37 ρ37 M37 H37 h ⟨hle37, rfl, hs37_1, hs37_5, hs37_6⟩
 unfold f_ref05_has_l0 at h
 refine Cs (Sr (Pm (Iv x38) hs37_6 rfl (Pm (Sv x21) hs37_5 rfl (Pu (Iv (x21.size : Int)) (PO.lenStr Tryz.underlying9 rfl) rfl (Pu (Bv (decide (x38 < (x21.size : Int)))) (PO.lss rfl rfl) rfl (Nt (Cd (b := decide (x38 < (x21.size : Int))) rfl (fun hb39 => ?_) (fun hb39 => ?_))))))))
 have h := ite_t hb39 h
 refine Ck (Tc (Cs (Bk (Sr (Pm (Sv x21) hs37_5 rfl (Pm (Iv x38) hs37_6 rfl ?_))))))
 obtain ⟨hg40, h⟩ := grd_i h
 refine Pu (Yv (btAt x21 x38)) (PO.indexStr Tryz.underlying9 rfl rfl hg40.1 (strAt hg40)) rfl (Pm (Yv a1) hs37_1 rfl (Pu (Bv (decide ((btAt x21 x38) = a1))) (PO.eql rfl rfl) rfl (Nt (Cd (b := decide ((btAt x21 x38) = a1)) rfl (fun hb42 => ?_) (fun hb42 => ?_)))))
 have h := ite_t hb42 h
 refine Sr (Pa (Bv true) rfl rfl (Nt (Cr (Br (Tr (WQ.leaveR (Sum.inr ()) (oi h).symm (fun heq37 => ?_)))))))
 subst heq37
 have h := (elimR hK37)
 refine Br (Tr ?_)
 have h := KK.early h h336
 exact Rf h [] rfl (Rs rfl rfl) (hle22.trans hle37) ⟨rfl, rfl⟩
 have h := ite_f hb42 h
 exact Ck (Bn (Tc (Cg (Pm (Iv x38) hs37_6 rfl (Pu (Iv (IntKind.i64.wrap (x38 + 1))) (PO.add rfl rfl) rfl (Pa (Iv (IntKind.i64.wrap (x38 + 1))) rfl rfl (Wz (WQ.again (IntKind.i64.wrap (x38 + 1)) (oi h).symm ⟨hle37, rfl, hs37_1, hs37_5, rfl⟩))))))))
 have h := ite_f hb39 h
 refine WC.exit (WQ.thenE (WQ.leaveE (Sum.inl ()) (oi h).symm (fun heq37 => ?_)))
 subst heq37
 have h := elimL hK37
 exact WQ.blockH (WQ.thenFE h ⟨hle37, rfl⟩)
 rintro _ ρ36 M36 H36 rfl ⟨hle36, rfl⟩
 have h := (Sum.elim_inl _ _ _).symm.trans h
 exact Sr (Pa (Bv false) rfl rfl (Nt (Cr (Rf h [] rfl (Rs rfl rfl) (hle22.trans hle36) ⟨rfl, rfl⟩))))

noncomputable def f_ref05_Cursor_some (a0 : T_ref05_Cursor) (a1 : Bool) : Option (Int × Int × Int × ByteArray × Int) :=
  (if (!a1) = true then (some ((0 : Int), a0.S.At, a0.S.Code, a0.S.Op, a0.S.Where)) else ((f_ref05_Cursor_Int a0 (1073741824 : Int)).bind fun (r22, r23, r24, r25, r26) => (some (r22, r23, r24, r25, r26))))
def f_ref05_Cursor_some_post (a0 : T_ref05_Cursor) (a1 : Bool) (v0_0 : Value) (g0 : Nat) : (Int × Int × Int × ByteArray × Int) → Value → IM → HL → Prop :=
  fun (p_ : (Int × Int × Int × ByteArray × Int)) (v : Value) (M' : IM) (H' : HL) => match p_ with | (r0, r1, r2, r3, r4) => (.int .i64 r0) = v ∧ H' = [[(g0, .cells #[v0_0, (.int .i64 r1), (.int .i64 r2), (.string r3), (.int .i64 r4)] 57 (0, 0))]]
theorem f_ref05_Cursor_some_ok (a0 : T_ref05_Cursor) (a1 : Bool) (M : IM) (v0_0 : Value) (g0 : Nat) (h0_0 : RS (Kd.int .u8) M v0_0 a0.B) (res : (Int × Int × Int × ByteArray × Int)) (h : f_ref05_Cursor_some a0 a1 = some res) :
    Tri Tryz.prog 88 #[(pt g0 0), (Bv a1)] M [[(g0, .cells (l57 a0 v0_0).toArray 57 (0, 0))]] (f_ref05_Cursor_some_post a0 a1 v0_0 g0 res) := by
 unfold f_ref05_Cursor_some at h
 refine Te Tryz.func88 rfl rfl ?_
 intro F ρ hρ
 refine Sr (Pa (Iv 0) rfl rfl (Nt (Cs (Sr (Pm (Bv a1) (hρ 1) rfl (Pu (Bv (!a1)) (PO.not rfl) rfl (Nt (Cd (b := !a1) rfl (fun hb21 => ?_) (fun hb21 => ?_)))))))))
 have h := ite_t hb21 h
 exact Sr (Pa (Iv 0) rfl rfl (Nt (Cr (Tr (Rf h [[(g0, .cells (l57 a0 v0_0).toArray 57 (0, 0))]] rfl (Rs rfl rfl) lr ⟨rfl, rfl⟩)))))
 have h := ite_f hb21 h
 refine Ck (Tc (Sr (Pm (pt g0 0) (hρ 0) rfl ?_)))
 obtain ⟨⟨r22, r23, r24, r25, r26⟩, hr27, h⟩ := bnd h
 refine We (Cb co47 (f_ref05_Cursor_Int_ok a0 (1073741824 : Int) _ _ _ h0_0 (r22, r23, r24, r25, r26) hr27) (args2 rfl rfl)) rfl ?_
 rintro _ M28 _ hle29 ⟨_, ⟨rfl, rfl⟩, rfl⟩
 exact WL.a1 (Pa (Iv r22) rfl rfl (Nt (Cr (Rf h [[(g0, .cells #[v0_0, (Iv r23), (Iv r24), (Sv r25), (Iv r26)] 57 (0, 0))]] rfl (Rs rfl rfl) hle29 ⟨rfl, rfl⟩))))

noncomputable def f_ref05_Cursor_Flag (a0 : T_ref05_Cursor) : Option (Bool × Int × Int × ByteArray × Int) :=
  ((((f_ref02_Read a0.B a0.S (⟨(2 : Int), (0 : Int), (0 : Int)⟩ : T_ref02_Ask)).bind fun (r30, r31) => (some (r30, r31.Num, r31.Flag, r31.Text, r31.Row))) : Option (T_ref02_State × Int × Bool × (List Int) × (List Int))).bind fun (x22, x24, x25, x26, x27) => (some (x25, x22.At, x22.Code, x22.Op, x22.Where)))
def f_ref05_Cursor_Flag_post (a0 : T_ref05_Cursor) (v0_0 : Value) (g0 : Nat) : (Bool × Int × Int × ByteArray × Int) → Value → IM → HL → Prop :=
  fun (p_ : (Bool × Int × Int × ByteArray × Int)) (v : Value) (M' : IM) (H' : HL) => match p_ with | (r0, r1, r2, r3, r4) => (.bool r0) = v ∧ H' = [[(g0, .cells #[v0_0, (.int .i64 r1), (.int .i64 r2), (.string r3), (.int .i64 r4)] 57 (0, 0))]]
theorem f_ref05_Cursor_Flag_ok (a0 : T_ref05_Cursor) (M : IM) (v0_0 : Value) (g0 : Nat) (h0_0 : RS (Kd.int .u8) M v0_0 a0.B) (res : (Bool × Int × Int × ByteArray × Int)) (h : f_ref05_Cursor_Flag a0 = some res) :
    Tri Tryz.prog 89 #[(pt g0 0)] M [[(g0, .cells (l57 a0 v0_0).toArray 57 (0, 0))]] (f_ref05_Cursor_Flag_post a0 v0_0 g0 res) := by
 unfold f_ref05_Cursor_Flag at h
 refine Te Tryz.func89 rfl rfl ?_
 intro F ρ hρ
 refine Sr (Pa (Bv false) rfl rfl (Nt ?_))
 obtain ⟨j28, hj28, h⟩ := bnd h
 refine Jf (fun (p_ : (T_ref02_State × Int × Bool × (List Int) × (List Int))) ρ' M' H' => match p_ with | (x22, x24, x25, x26, x27) => ∃ g21 g23 vx26 vx27 cx27, M.le M' ∧ [(g0, .cells (l57 a0 v0_0).toArray 57 (0, 0))] :: [(g21, .cells (l50 x22).toArray 50 (0, 0))] :: [(g23, .cells #[(Uv x24), (Bv x25), vx26, vx27] 128 (0, 0))] :: cx27 :: F = H' ∧ ρ' 0 = (pt g0 0) ∧ ρ' 3 = (pt g21 0) ∧ ρ' 4 = (pt g23 0) ∧ RS (Kd.int .u8) M' vx26 x26 ∧ OwnS (Kd.int .i64) M' vx27 x27 cx27) j28 ?_ ?_
 have h328 := h
 have h := hj28
 refine WC.draw [0, 1, 3, 7, 0, 16, 48, 112, 0, 511, 1023, 2047, 2047, 0, 0, 28671, 65535] (.pure 0 (.pure 1 (.pure 2 (.pure 3 (.pure 4 (.pure 5 (.pure 6 (.pure 7 (.pure 8 (.alt 9 (.pure 10 (.pure 11 (.pure 12 (.alt 13 (.alt 14 (.alt 15 (.alt 16 .done .none) .none) .none) (.alt 14 (.alt 13 (.alt 15 (.alt 16 .done .none) .none) .none) .none))))) (.alt 13 (.alt 9 (.pure 10 (.pure 11 (.pure 12 (.alt 14 (.alt 15 (.alt 16 .done .none) .none) .none)))) (.alt 14 (.alt 9 (.pure 10 (.pure 11 (.pure 12 (.alt 15 (.alt 16 .done .none) .none)))) .none) .none)) (.alt 14 (.alt 9 (.pure 10 (.pure 11 (.pure 12 (.alt 13 (.alt 15 (.alt 16 .done .none) .none) .none)))) (.alt 13 (.alt 9 (.pure 10 (.pure 11 (.pure 12 (.alt 15 (.alt 16 .done .none) .none)))) .none) .none)) .none)))))))))))) mixed (by kernel_rfl) (Tp (pt g0 0) rfl (Mv (hρ 0)) rfl (Tp (pt g0 0) rfl (Nk rfl) rfl (Tp (pt g0 0) rfl (Fa fo57_0 rfl rfl) rfl (Tp v0_0 rfl (Lb 0 pl40 rfl rfl rfl) rfl (Tp (pt g0 0) rfl (Mv (hρ 0)) rfl (Tp (pt g0 0) rfl (Nk rfl) rfl (Tp (pt g0 1) rfl (Fa fo57_1 rfl rfl) rfl (Tp (a50_ a0.S) rfl (La (cs := (l50 a0.S)) 0 ag50 sz50 rfl rfl rfl) rfl (Tp (.agg #[(Iv 2), (Iv 0), (Iv 0)]) rfl (Bl (cl := [(Iv 2), (Iv 0), (Iv 0)]) ze132 fp132 (Pc (Iv 2) rfl rfl Pz) rfl) rfl ?_)))))))))
 have hk29 := h
 obtain ⟨⟨r30, r31⟩, hr32, h⟩ := bnd h
 refine Ta rfl (Ca co87 (f_ref02_Read_ok a0.B a0.S (⟨(2 : Int), (0 : Int), (0 : Int)⟩ : T_ref02_Ask) _ _ h0_0 (r30, r31) hr32) (args3 rfl rfl rfl)) rfl ?_ ?_
 rintro _ M33 _ hle34 ⟨_, ⟨vq36_2, vq36_3, cq36_3, rfl, rfl, hq36_2, hq36_3⟩, rfl⟩
 refine ⟨(Sl rfl), ?_⟩
 refine WT.a1 (Tp (.tuple #[(a50_ r30), (a128_ r31 vq36_2 vq36_3)]) rfl (Mv rfl) rfl (Tp (a50_ r30) rfl (Xt rfl rfl) rfl (Tp (a128_ r31 vq36_2 vq36_3) rfl (Xt rfl rfl) rfl ?_)))
 have hk37 := h
 refine Ta rfl (Al ze50 rfl) rfl ?_ ?_
 rintro _ _ _ - ⟨rfl, g38, rfl, rfl⟩
 refine ⟨(Ss rfl (Xt rfl rfl) rfl (Ss rfl (Xt rfl rfl) rfl (Ss rfl (Mv rfl) rfl (Ss rfl (Bl (cl := [(Iv 2), (Iv 0), (Iv 0)]) ze132 fp132 (Pc (Iv 2) rfl rfl Pz) rfl) rfl (Ss rfl (La (cs := (l50 a0.S)) 2 ag50 sz50 rfl rfl rfl) rfl (Ss rfl (Fa fo57_1 rfl rfl) rfl (Ss rfl (Nk rfl) rfl (Ss rfl (Mv (hρ 0)) rfl (Ss rfl (Lb 2 pl40 rfl rfl rfl) rfl (Ss rfl (Fa fo57_0 rfl rfl) rfl (Ss rfl (Nk rfl) rfl (Ss rfl (Mv (hρ 0)) rfl trivial)))))))))))), ?_⟩
 refine Ta rfl (Al ze128 rfl) rfl ?_ ?_
 rintro _ _ _ - ⟨rfl, g39, rfl, rfl⟩
 refine ⟨(Ss rfl (Xt rfl rfl) rfl (Ss rfl (Xt rfl rfl) rfl (Ss rfl (Mv rfl) rfl (Ss rfl (Bl (cl := [(Iv 2), (Iv 0), (Iv 0)]) ze132 fp132 (Pc (Iv 2) rfl rfl Pz) rfl) rfl (Ss rfl (La (cs := (l50 a0.S)) 3 ag50 sz50 rfl rfl rfl) rfl (Ss rfl (Fa fo57_1 rfl rfl) rfl (Ss rfl (Nk rfl) rfl (Ss rfl (Mv (hρ 0)) rfl (Ss rfl (Lb 3 pl40 rfl rfl rfl) rfl (Ss rfl (Fa fo57_0 rfl rfl) rfl (Ss rfl (Nk rfl) rfl (Ss rfl (Mv (hρ 0)) rfl trivial)))))))))))), ?_⟩
 refine WT.f1 (Ta rfl (Sg (v := (a50_ r30)) (vl := (l50 r30)) (arr' := (l50 r30)) rfl sz50 rfl rfl (onb rfl) rfl rfl rfl) rfl ?_ ?_)
 rintro _ _ _ - ⟨rfl, rfl⟩
 refine ⟨(Ss rfl (Xt rfl rfl) rfl (Sl rfl)), ?_⟩
 refine WT.f1 (Ta rfl (Sg (v := (a128_ r31 vq36_2 vq36_3)) (vl := (l128 r31 vq36_2 vq36_3)) (arr' := (l128 r31 vq36_2 vq36_3)) rfl sz128 rfl rfl (onesOf (Oc rfl (Oc rfl (Oc (RS.one hq36_2) (Oc (Ow hq36_3) Oz))))) rfl rfl rfl) rfl ?_ ?_)
 rintro _ _ _ - ⟨rfl, rfl⟩
 refine ⟨(Sl rfl), ?_⟩
 refine Ti (Qb (Qa (Qb (WQ.f3 ?_))))
 obtain rfl := oi h
 exact Tj ⟨g38, g39, vq36_2, vq36_3, cq36_3, hle34, rfl, (hρ 0), rfl, rfl, hq36_2, hq36_3⟩
 exact Tz
 exact Tz
 exact Tz
 have h := hk37
 refine Ta rfl (Al ze128 rfl) rfl ?_ ?_
 rintro _ _ _ - ⟨rfl, g40, rfl, rfl⟩
 refine ⟨(Ss rfl (Xt rfl rfl) rfl (Ss rfl (Xt rfl rfl) rfl (Ss rfl (Mv rfl) rfl (Ss rfl (Bl (cl := [(Iv 2), (Iv 0), (Iv 0)]) ze132 fp132 (Pc (Iv 2) rfl rfl Pz) rfl) rfl (Ss rfl (La (cs := (l50 a0.S)) 2 ag50 sz50 rfl rfl rfl) rfl (Ss rfl (Fa fo57_1 rfl rfl) rfl (Ss rfl (Nk rfl) rfl (Ss rfl (Mv (hρ 0)) rfl (Ss rfl (Lb 2 pl40 rfl rfl rfl) rfl (Ss rfl (Fa fo57_0 rfl rfl) rfl (Ss rfl (Nk rfl) rfl (Ss rfl (Mv (hρ 0)) rfl trivial)))))))))))), ?_⟩
 refine Ta rfl (Al ze50 rfl) rfl ?_ ?_
 rintro _ _ _ - ⟨rfl, g41, rfl, rfl⟩
 refine ⟨(Ss rfl (Xt rfl rfl) rfl (Ss rfl (Xt rfl rfl) rfl (Ss rfl (Mv rfl) rfl (Ss rfl (Bl (cl := [(Iv 2), (Iv 0), (Iv 0)]) ze132 fp132 (Pc (Iv 2) rfl rfl Pz) rfl) rfl (Ss rfl (La (cs := (l50 a0.S)) 3 ag50 sz50 rfl rfl rfl) rfl (Ss rfl (Fa fo57_1 rfl rfl) rfl (Ss rfl (Nk rfl) rfl (Ss rfl (Mv (hρ 0)) rfl (Ss rfl (Lb 3 pl40 rfl rfl rfl) rfl (Ss rfl (Fa fo57_0 rfl rfl) rfl (Ss rfl (Nk rfl) rfl (Ss rfl (Mv (hρ 0)) rfl trivial)))))))))))), ?_⟩
 refine Ta rfl (Sg (v := (a50_ r30)) (vl := (l50 r30)) (arr' := (l50 r30)) rfl sz50 rfl rfl (onb rfl) rfl rfl rfl) rfl ?_ ?_
 rintro _ _ _ - ⟨rfl, rfl⟩
 refine ⟨(Ss rfl (Xt rfl rfl) rfl (Sl rfl)), ?_⟩
 refine WT.f1 (Ta rfl (Sg (v := (a128_ r31 vq36_2 vq36_3)) (vl := (l128 r31 vq36_2 vq36_3)) (arr' := (l128 r31 vq36_2 vq36_3)) rfl sz128 rfl rfl (onesOf (Oc rfl (Oc rfl (Oc (RS.one hq36_2) (Oc (Ow hq36_3) Oz))))) rfl rfl rfl) rfl ?_ ?_)
 rintro _ _ _ - ⟨rfl, rfl⟩
 refine ⟨(Sl rfl), ?_⟩
 refine Ti (Qb (Qa (Qb (WQ.f3 ?_))))
 obtain rfl := oi h
 exact Tj ⟨g41, g40, vq36_2, vq36_3, cq36_3, hle34, rfl, (hρ 0), rfl, rfl, hq36_2, hq36_3⟩
 exact Tz
 exact Tz
 exact Tz
 exact Tz
 have h := hk29
 have hk42 := h
 refine Ta rfl (Al ze50 rfl) rfl ?_ ?_
 rintro _ _ _ - ⟨rfl, g43, rfl, rfl⟩
 refine ⟨(Ss rfl (Bl (cl := [(Iv 2), (Iv 0), (Iv 0)]) ze132 fp132 (Pc (Iv 2) rfl rfl Pz) rfl) rfl (Ss rfl (La (cs := (l50 a0.S)) 1 ag50 sz50 rfl rfl rfl) rfl (Ss rfl (Fa fo57_1 rfl rfl) rfl (Ss rfl (Nk rfl) rfl (Ss rfl (Mv (hρ 0)) rfl (Ss rfl (Lb 1 pl40 rfl rfl rfl) rfl (Ss rfl (Fa fo57_0 rfl rfl) rfl (Ss rfl (Nk rfl) rfl (Ss rfl (Mv (hρ 0)) rfl trivial))))))))), ?_⟩
 have hk44 := h
 obtain ⟨⟨r45, r46⟩, hr47, h⟩ := bnd h
 refine Ta rfl (Ca co87 (f_ref02_Read_ok a0.B a0.S (⟨(2 : Int), (0 : Int), (0 : Int)⟩ : T_ref02_Ask) _ _ h0_0 (r45, r46) hr47) (args3 rfl rfl rfl)) rfl ?_ ?_
 rintro _ M48 _ hle49 ⟨_, ⟨vq51_2, vq51_3, cq51_3, rfl, rfl, hq51_2, hq51_3⟩, rfl⟩
 refine ⟨(Sl rfl), ?_⟩
 refine WT.a1 (Tp (.tuple #[(a50_ r45), (a128_ r46 vq51_2 vq51_3)]) rfl (Mv rfl) rfl (Tp (a50_ r45) rfl (Xt rfl rfl) rfl (Tp (a128_ r46 vq51_2 vq51_3) rfl (Xt rfl rfl) rfl (Ta rfl (Al ze128 rfl) rfl ?_ ?_))))
 rintro _ _ _ - ⟨rfl, g52, rfl, rfl⟩
 refine ⟨(Ss rfl (Xt rfl rfl) rfl (Ss rfl (Xt rfl rfl) rfl (Ss rfl (Mv rfl) rfl (Ss rfl (Bl (cl := [(Iv 2), (Iv 0), (Iv 0)]) ze132 fp132 (Pc (Iv 2) rfl rfl Pz) rfl) rfl (Ss rfl (La (cs := (l50 a0.S)) 3 ag50 sz50 rfl rfl rfl) rfl (Ss rfl (Fa fo57_1 rfl rfl) rfl (Ss rfl (Nk rfl) rfl (Ss rfl (Mv (hρ 0)) rfl (Ss rfl (Lb 3 pl40 rfl rfl rfl) rfl (Ss rfl (Fa fo57_0 rfl rfl) rfl (Ss rfl (Nk rfl) rfl (Ss rfl (Mv (hρ 0)) rfl trivial)))))))))))), ?_⟩
 refine WT.f2 (Ta rfl (Sg (v := (a50_ r45)) (vl := (l50 r45)) (arr' := (l50 r45)) rfl sz50 rfl rfl (onb rfl) rfl rfl rfl) rfl ?_ ?_)
 rintro _ _ _ - ⟨rfl, rfl⟩
 refine ⟨(Ss rfl (Xt rfl rfl) rfl (Sl rfl)), ?_⟩
 refine WT.f1 (Ta rfl (Sg (v := (a128_ r46 vq51_2 vq51_3)) (vl := (l128 r46 vq51_2 vq51_3)) (arr' := (l128 r46 vq51_2 vq51_3)) rfl sz128 rfl rfl (onesOf (Oc rfl (Oc rfl (Oc (RS.one hq51_2) (Oc (Ow hq51_3) Oz))))) rfl rfl rfl) rfl ?_ ?_)
 rintro _ _ _ - ⟨rfl, rfl⟩
 refine ⟨(Sl rfl), ?_⟩
 refine Ti (Qb (Qa (Qb (WQ.f3 ?_))))
 obtain rfl := oi h
 exact Tj ⟨g43, g52, vq51_2, vq51_3, cq51_3, hle49, rfl, (hρ 0), rfl, rfl, hq51_2, hq51_3⟩
 exact Tz
 exact Tz
 exact Tz
 have h := hk44
 refine Ta rfl (Al ze128 rfl) rfl ?_ ?_
 rintro _ _ _ - ⟨rfl, g53, rfl, rfl⟩
 refine ⟨(Ss rfl (Bl (cl := [(Iv 2), (Iv 0), (Iv 0)]) ze132 fp132 (Pc (Iv 2) rfl rfl Pz) rfl) rfl (Ss rfl (La (cs := (l50 a0.S)) 2 ag50 sz50 rfl rfl rfl) rfl (Ss rfl (Fa fo57_1 rfl rfl) rfl (Ss rfl (Nk rfl) rfl (Ss rfl (Mv (hρ 0)) rfl (Ss rfl (Lb 2 pl40 rfl rfl rfl) rfl (Ss rfl (Fa fo57_0 rfl rfl) rfl (Ss rfl (Nk rfl) rfl (Ss rfl (Mv (hρ 0)) rfl trivial))))))))), ?_⟩
 obtain ⟨⟨r54, r55⟩, hr56, h⟩ := bnd h
 refine Ta rfl (Ca co87 (f_ref02_Read_ok a0.B a0.S (⟨(2 : Int), (0 : Int), (0 : Int)⟩ : T_ref02_Ask) _ _ h0_0 (r54, r55) hr56) (args3 rfl rfl rfl)) rfl ?_ ?_
 rintro _ M57 _ hle58 ⟨_, ⟨vq60_2, vq60_3, cq60_3, rfl, rfl, hq60_2, hq60_3⟩, rfl⟩
 refine ⟨(Sl rfl), ?_⟩
 refine WT.a1 (Tp (.tuple #[(a50_ r54), (a128_ r55 vq60_2 vq60_3)]) rfl (Mv rfl) rfl (Tp (a50_ r54) rfl (Xt rfl rfl) rfl (Tp (a128_ r55 vq60_2 vq60_3) rfl (Xt rfl rfl) rfl (WT.f2 (Ta rfl (Sg (v := (a50_ r54)) (vl := (l50 r54)) (arr' := (l50 r54)) rfl sz50 rfl rfl (onb rfl) rfl rfl rfl) rfl ?_ ?_)))))
 rintro _ _ _ - ⟨rfl, rfl⟩
 refine ⟨(Ss rfl (Xt rfl rfl) rfl (Sl rfl)), ?_⟩
 refine WT.f2 (Ta rfl (Sg (v := (a128_ r55 vq60_2 vq60_3)) (vl := (l128 r55 vq60_2 vq60_3)) (arr' := (l128 r55 vq60_2 vq60_3)) rfl sz128 rfl rfl (onesOf (Oc rfl (Oc rfl (Oc (RS.one hq60_2) (Oc (Ow hq60_3) Oz))))) rfl rfl rfl) rfl ?_ ?_)
 rintro _ _ _ - ⟨rfl, rfl⟩
 refine ⟨(Sl rfl), ?_⟩
 refine Ti (Qb (Qa (Qb (WQ.f3 ?_))))
 obtain rfl := oi h
 exact Tj ⟨g43, g53, vq60_2, vq60_3, cq60_3, hle58, rfl, (hρ 0), rfl, rfl, hq60_2, hq60_3⟩
 exact Tz
 exact Tz
 exact Tz
 exact Tz
 have h := hk42
 refine Ta rfl (Al ze128 rfl) rfl ?_ ?_
 rintro _ _ _ - ⟨rfl, g61, rfl, rfl⟩
 refine ⟨(Ss rfl (Bl (cl := [(Iv 2), (Iv 0), (Iv 0)]) ze132 fp132 (Pc (Iv 2) rfl rfl Pz) rfl) rfl (Ss rfl (La (cs := (l50 a0.S)) 1 ag50 sz50 rfl rfl rfl) rfl (Ss rfl (Fa fo57_1 rfl rfl) rfl (Ss rfl (Nk rfl) rfl (Ss rfl (Mv (hρ 0)) rfl (Ss rfl (Lb 1 pl40 rfl rfl rfl) rfl (Ss rfl (Fa fo57_0 rfl rfl) rfl (Ss rfl (Nk rfl) rfl (Ss rfl (Mv (hρ 0)) rfl trivial))))))))), ?_⟩
 have hk62 := h
 obtain ⟨⟨r63, r64⟩, hr65, h⟩ := bnd h
 refine Ta rfl (Ca co87 (f_ref02_Read_ok a0.B a0.S (⟨(2 : Int), (0 : Int), (0 : Int)⟩ : T_ref02_Ask) _ _ h0_0 (r63, r64) hr65) (args3 rfl rfl rfl)) rfl ?_ ?_
 rintro _ M66 _ hle67 ⟨_, ⟨vq69_2, vq69_3, cq69_3, rfl, rfl, hq69_2, hq69_3⟩, rfl⟩
 refine ⟨(Sl rfl), ?_⟩
 refine WT.a1 (Tp (.tuple #[(a50_ r63), (a128_ r64 vq69_2 vq69_3)]) rfl (Mv rfl) rfl (Tp (a50_ r63) rfl (Xt rfl rfl) rfl (Tp (a128_ r64 vq69_2 vq69_3) rfl (Xt rfl rfl) rfl (Ta rfl (Al ze50 rfl) rfl ?_ ?_))))
 rintro _ _ _ - ⟨rfl, g70, rfl, rfl⟩
 refine ⟨(Ss rfl (Xt rfl rfl) rfl (Ss rfl (Xt rfl rfl) rfl (Ss rfl (Mv rfl) rfl (Ss rfl (Bl (cl := [(Iv 2), (Iv 0), (Iv 0)]) ze132 fp132 (Pc (Iv 2) rfl rfl Pz) rfl) rfl (Ss rfl (La (cs := (l50 a0.S)) 3 ag50 sz50 rfl rfl rfl) rfl (Ss rfl (Fa fo57_1 rfl rfl) rfl (Ss rfl (Nk rfl) rfl (Ss rfl (Mv (hρ 0)) rfl (Ss rfl (Lb 3 pl40 rfl rfl rfl) rfl (Ss rfl (Fa fo57_0 rfl rfl) rfl (Ss rfl (Nk rfl) rfl (Ss rfl (Mv (hρ 0)) rfl trivial)))))))))))), ?_⟩
 refine Ta rfl (Sg (v := (a50_ r63)) (vl := (l50 r63)) (arr' := (l50 r63)) rfl sz50 rfl rfl (onb rfl) rfl rfl rfl) rfl ?_ ?_
 rintro _ _ _ - ⟨rfl, rfl⟩
 refine ⟨(Ss rfl (Xt rfl rfl) rfl (Sl rfl)), ?_⟩
 refine WT.f2 (Ta rfl (Sg (v := (a128_ r64 vq69_2 vq69_3)) (vl := (l128 r64 vq69_2 vq69_3)) (arr' := (l128 r64 vq69_2 vq69_3)) rfl sz128 rfl rfl (onesOf (Oc rfl (Oc rfl (Oc (RS.one hq69_2) (Oc (Ow hq69_3) Oz))))) rfl rfl rfl) rfl ?_ ?_)
 rintro _ _ _ - ⟨rfl, rfl⟩
 refine ⟨(Sl rfl), ?_⟩
 refine Ti (Qb (Qa (Qb (WQ.f3 ?_))))
 obtain rfl := oi h
 exact Tj ⟨g70, g61, vq69_2, vq69_3, cq69_3, hle67, rfl, (hρ 0), rfl, rfl, hq69_2, hq69_3⟩
 exact Tz
 exact Tz
 exact Tz
 have h := hk62
 refine Ta rfl (Al ze50 rfl) rfl ?_ ?_
 rintro _ _ _ - ⟨rfl, g71, rfl, rfl⟩
 refine ⟨(Ss rfl (Bl (cl := [(Iv 2), (Iv 0), (Iv 0)]) ze132 fp132 (Pc (Iv 2) rfl rfl Pz) rfl) rfl (Ss rfl (La (cs := (l50 a0.S)) 2 ag50 sz50 rfl rfl rfl) rfl (Ss rfl (Fa fo57_1 rfl rfl) rfl (Ss rfl (Nk rfl) rfl (Ss rfl (Mv (hρ 0)) rfl (Ss rfl (Lb 2 pl40 rfl rfl rfl) rfl (Ss rfl (Fa fo57_0 rfl rfl) rfl (Ss rfl (Nk rfl) rfl (Ss rfl (Mv (hρ 0)) rfl trivial))))))))), ?_⟩
 obtain ⟨⟨r72, r73⟩, hr74, h⟩ := bnd h
 refine Ta rfl (Ca co87 (f_ref02_Read_ok a0.B a0.S (⟨(2 : Int), (0 : Int), (0 : Int)⟩ : T_ref02_Ask) _ _ h0_0 (r72, r73) hr74) (args3 rfl rfl rfl)) rfl ?_ ?_
 rintro _ M75 _ hle76 ⟨_, ⟨vq78_2, vq78_3, cq78_3, rfl, rfl, hq78_2, hq78_3⟩, rfl⟩
 refine ⟨(Sl rfl), ?_⟩
 refine WT.a1 (Tp (.tuple #[(a50_ r72), (a128_ r73 vq78_2 vq78_3)]) rfl (Mv rfl) rfl (Tp (a50_ r72) rfl (Xt rfl rfl) rfl (Tp (a128_ r73 vq78_2 vq78_3) rfl (Xt rfl rfl) rfl (WT.f1 (Ta rfl (Sg (v := (a50_ r72)) (vl := (l50 r72)) (arr' := (l50 r72)) rfl sz50 rfl rfl (onb rfl) rfl rfl rfl) rfl ?_ ?_)))))
 rintro _ _ _ - ⟨rfl, rfl⟩
 refine ⟨(Ss rfl (Xt rfl rfl) rfl (Sl rfl)), ?_⟩
 refine WT.f2 (Ta rfl (Sg (v := (a128_ r73 vq78_2 vq78_3)) (vl := (l128 r73 vq78_2 vq78_3)) (arr' := (l128 r73 vq78_2 vq78_3)) rfl sz128 rfl rfl (onesOf (Oc rfl (Oc rfl (Oc (RS.one hq78_2) (Oc (Ow hq78_3) Oz))))) rfl rfl rfl) rfl ?_ ?_)
 rintro _ _ _ - ⟨rfl, rfl⟩
 refine ⟨(Sl rfl), ?_⟩
 refine Ti (Qb (Qa (Qb (WQ.f3 ?_))))
 obtain rfl := oi h
 exact Tj ⟨g71, g61, vq78_2, vq78_3, cq78_3, hle76, rfl, (hρ 0), rfl, rfl, hq78_2, hq78_3⟩
 exact Tz
 exact Tz
 exact Tz
 exact Tz
 exact Tz
 obtain ⟨x22, x24, x25, x26, x27⟩ := j28
 rintro ρ28 M28 H28 ⟨g21, g23, vx26, vx27, cx27, hle28, rfl, hs28_0, hs28_3, hs28_4, hx26, hx27⟩
 refine Sr (Pm (pt g0 0) hs28_0 rfl (Pu (a50_ x22) (La (cs := (l50 x22)) 1 ag50 sz50 hs28_3 rfl rfl) rfl (Pu (pt g0 0) (Nk rfl) rfl (Pu (pt g0 1) (Fa fo57_1 rfl rfl) rfl (We (Sg (v := (a50_ x22)) (vl := (l50 x22)) (arr' := [v0_0, (Iv x22.At), (Iv x22.Code), (Sv x22.Op), (Iv x22.Where)]) rfl sz50 rfl rfl (onb rfl) rfl rfl rfl) rfl ?_)))))
 rintro _ _ _ - ⟨rfl, rfl⟩
 refine Ns (Pu (pt g23 1) (Fa fo128_1 hs28_4 rfl) rfl (Pu (Bv x25) (Lb 2 pl4 rfl rfl rfl) rfl (Pa (Bv x25) rfl rfl (Nt (Cr (Qa (Dr (Qa (Dr (Qa (Dr ?_)))))))))))
 exact Rf h [[(g0, .cells #[v0_0, (Iv x22.At), (Iv x22.Code), (Sv x22.Op), (Iv x22.Where)] 57 (0, 0))]] rfl (Rs rfl rfl) hle28 ⟨rfl, rfl⟩


end Go.Proofs.YtjiffdgidodebaaGreatDoor.G
