/- Go functions: what they come to, and that they do. Printed by a program of the session (gen). -/
import Derived.Test.YtjiffdgidodebaaGreatDoorRF
import Derived.Test.YtjiffdgidodebaaGreatDoorR9
import Derived.Test.YtjiffdgidodebaaGreatDoorKShar2
import Derived.Test.YtjiffdgidodebaaGreatDoorKConv
import Derived.Test.YtjiffdgidodebaaGreatDoorKTight
set_option linter.unusedVariables false
set_option linter.unusedSimpArgs false
set_option maxHeartbeats 8000000
set_option maxRecDepth 100000
namespace Go.Proofs.YtjiffdgidodebaaGreatDoor.G
open Go Go.KK

noncomputable def f_ref05_Cursor_Text (a0 : T_ref05_Cursor) (a1 : Int) : Option ((List Int) × Int × Int × ByteArray × Int) :=
  ((((f_ref02_Read a0.B a0.S (⟨(3 : Int), a1, (0 : Int)⟩ : T_ref02_Ask)).bind fun (r30, r31) => (some (r30, r31.Num, r31.Flag, r31.Text, r31.Row))) : Option (T_ref02_State × Int × Bool × (List Int) × (List Int))).bind fun (x22, x24, x25, x26, x27) => (some (x26, x22.At, x22.Code, x22.Op, x22.Where)))
def f_ref05_Cursor_Text_post (a0 : T_ref05_Cursor) (a1 : Int) (v0_0 : Value) (g0 : Nat) : ((List Int) × Int × Int × ByteArray × Int) → Value → IM → HL → Prop :=
  fun (p_ : ((List Int) × Int × Int × ByteArray × Int)) (v : Value) (M' : IM) (H' : HL) => match p_ with | (r0, r1, r2, r3, r4) => ∃ vz0, vz0 = v ∧ H' = [[(g0, .cells #[v0_0, (.int .i64 r1), (.int .i64 r2), (.string r3), (.int .i64 r4)] 57 (0, 0))]] ∧ RS (Kd.int .u8) M' vz0 r0
theorem f_ref05_Cursor_Text_ok (a0 : T_ref05_Cursor) (a1 : Int) (M : IM) (v0_0 : Value) (g0 : Nat) (h0_0 : RS (Kd.int .u8) M v0_0 a0.B) (res : ((List Int) × Int × Int × ByteArray × Int)) (h : f_ref05_Cursor_Text a0 a1 = some res) :
    Tri Tryz.prog 114 #[(pt g0 0), (Iv a1)] M [[(g0, .cells (l57 a0 v0_0).toArray 57 (0, 0))]] (f_ref05_Cursor_Text_post a0 a1 v0_0 g0 res) := by
 unfold f_ref05_Cursor_Text at h
 refine Te Tryz.func114 rfl rfl ?_
 intro F ρ hρ
 refine Sr (Pa Zs rfl rfl (Nt ?_))
 obtain ⟨j28, hj28, h⟩ := bnd h
 refine Jf (fun (p_ : (T_ref02_State × Int × Bool × (List Int) × (List Int))) ρ' M' H' => match p_ with | (x22, x24, x25, x26, x27) => ∃ g21 g23 vx26 vx27 cx27, M.le M' ∧ [(g0, .cells (l57 a0 v0_0).toArray 57 (0, 0))] :: [(g21, .cells (l50 x22).toArray 50 (0, 0))] :: [(g23, .cells #[(Uv x24), (Bv x25), vx26, vx27] 128 (0, 0))] :: cx27 :: F = H' ∧ ρ' 0 = (pt g0 0) ∧ ρ' 5 = (pt g21 0) ∧ ρ' 6 = (pt g23 0) ∧ RS (Kd.int .u8) M' vx26 x26 ∧ OwnS (Kd.int .i64) M' vx27 x27 cx27) j28 ?_ ?_
 have h328 := h
 have h := hj28
 refine WC.draw [0, 1, 3, 7, 0, 16, 48, 112, 0, 256, 1023, 2047, 4095, 4095, 0, 0, 57343, 131071] (.pure 0 (.pure 1 (.pure 2 (.pure 3 (.pure 4 (.pure 5 (.pure 6 (.pure 7 (.pure 8 (.pure 9 (.alt 10 (.pure 11 (.pure 12 (.pure 13 (.alt 14 (.alt 15 (.alt 16 (.alt 17 .done .none) .none) .none) (.alt 15 (.alt 14 (.alt 16 (.alt 17 .done .none) .none) .none) .none))))) (.alt 14 (.alt 10 (.pure 11 (.pure 12 (.pure 13 (.alt 15 (.alt 16 (.alt 17 .done .none) .none) .none)))) (.alt 15 (.alt 10 (.pure 11 (.pure 12 (.pure 13 (.alt 16 (.alt 17 .done .none) .none)))) .none) .none)) (.alt 15 (.alt 10 (.pure 11 (.pure 12 (.pure 13 (.alt 14 (.alt 16 (.alt 17 .done .none) .none) .none)))) (.alt 14 (.alt 10 (.pure 11 (.pure 12 (.pure 13 (.alt 16 (.alt 17 .done .none) .none)))) .none) .none)) .none))))))))))))) mixed (by kernel_rfl) (Tp (pt g0 0) rfl (Mv (hρ 0)) rfl (Tp (pt g0 0) rfl (Nk rfl) rfl (Tp (pt g0 0) rfl (Fa fo57_0 rfl rfl) rfl (Tp v0_0 rfl (Lb 0 pl40 rfl rfl rfl) rfl (Tp (pt g0 0) rfl (Mv (hρ 0)) rfl (Tp (pt g0 0) rfl (Nk rfl) rfl (Tp (pt g0 1) rfl (Fa fo57_1 rfl rfl) rfl (Tp (a50_ a0.S) rfl (La (cs := (l50 a0.S)) 0 ag50 sz50 rfl rfl rfl) rfl (Tp (Iv a1) rfl (Mv (hρ 1)) rfl (Tp (.agg #[(Iv 3), (Iv a1), (Iv 0)]) rfl (Bl (cl := [(Iv 3), (Iv a1), (Iv 0)]) ze132 fp132 (Pc (Iv 3) rfl rfl (Pc (Iv a1) rfl rfl Pz)) rfl) rfl ?_))))))))))
 have hk29 := h
 obtain ⟨⟨r30, r31⟩, hr32, h⟩ := bnd h
 refine Ta rfl (Ca co87 (f_ref02_Read_ok a0.B a0.S (⟨(3 : Int), a1, (0 : Int)⟩ : T_ref02_Ask) _ _ h0_0 (r30, r31) hr32) (args3 rfl rfl rfl)) rfl ?_ ?_
 rintro _ M33 _ hle34 ⟨_, ⟨vq36_2, vq36_3, cq36_3, rfl, rfl, hq36_2, hq36_3⟩, rfl⟩
 refine ⟨(Sl rfl), ?_⟩
 refine WT.a1 (Tp (.tuple #[(a50_ r30), (a128_ r31 vq36_2 vq36_3)]) rfl (Mv rfl) rfl (Tp (a50_ r30) rfl (Xt rfl rfl) rfl (Tp (a128_ r31 vq36_2 vq36_3) rfl (Xt rfl rfl) rfl ?_)))
 have hk37 := h
 refine Ta rfl (Al ze50 rfl) rfl ?_ ?_
 rintro _ _ _ - ⟨rfl, g38, rfl, rfl⟩
 refine ⟨(Ss rfl (Xt rfl rfl) rfl (Ss rfl (Xt rfl rfl) rfl (Ss rfl (Mv rfl) rfl (Ss rfl (Bl (cl := [(Iv 3), (Iv a1), (Iv 0)]) ze132 fp132 (Pc (Iv 3) rfl rfl (Pc (Iv a1) rfl rfl Pz)) rfl) rfl (Ss rfl (Mv (hρ 1)) rfl (Ss rfl (La (cs := (l50 a0.S)) 2 ag50 sz50 rfl rfl rfl) rfl (Ss rfl (Fa fo57_1 rfl rfl) rfl (Ss rfl (Nk rfl) rfl (Ss rfl (Mv (hρ 0)) rfl (Ss rfl (Lb 2 pl40 rfl rfl rfl) rfl (Ss rfl (Fa fo57_0 rfl rfl) rfl (Ss rfl (Nk rfl) rfl (Ss rfl (Mv (hρ 0)) rfl trivial))))))))))))), ?_⟩
 refine Ta rfl (Al ze128 rfl) rfl ?_ ?_
 rintro _ _ _ - ⟨rfl, g39, rfl, rfl⟩
 refine ⟨(Ss rfl (Xt rfl rfl) rfl (Ss rfl (Xt rfl rfl) rfl (Ss rfl (Mv rfl) rfl (Ss rfl (Bl (cl := [(Iv 3), (Iv a1), (Iv 0)]) ze132 fp132 (Pc (Iv 3) rfl rfl (Pc (Iv a1) rfl rfl Pz)) rfl) rfl (Ss rfl (Mv (hρ 1)) rfl (Ss rfl (La (cs := (l50 a0.S)) 3 ag50 sz50 rfl rfl rfl) rfl (Ss rfl (Fa fo57_1 rfl rfl) rfl (Ss rfl (Nk rfl) rfl (Ss rfl (Mv (hρ 0)) rfl (Ss rfl (Lb 3 pl40 rfl rfl rfl) rfl (Ss rfl (Fa fo57_0 rfl rfl) rfl (Ss rfl (Nk rfl) rfl (Ss rfl (Mv (hρ 0)) rfl trivial))))))))))))), ?_⟩
 refine WT.f1 (Ta rfl (Sg (v := (a50_ r30)) (vl := (l50 r30)) (arr' := (l50 r30)) rfl sz50 rfl rfl (onb rfl) rfl rfl rfl) rfl ?_ ?_)
 rintro _ _ _ - ⟨rfl, rfl⟩
 refine ⟨(Ss rfl (Xt rfl rfl) rfl (Sl rfl)), ?_⟩
 refine WT.f1 (Ta rfl (Sg (v := (a128_ r31 vq36_2 vq36_3)) (vl := (l128 r31 vq36_2 vq36_3)) (arr' := (l128 r31 vq36_2 vq36_3)) rfl sz128 rfl rfl (onesOf (Oc rfl (Oc rfl (Oc (RS.one hq36_2) (Oc (Ow hq36_3) Oz))))) rfl rfl rfl) rfl ?_ ?_)
 rintro _ _ _ - ⟨rfl, rfl⟩
 refine ⟨(Sl rfl), ?_⟩
 refine Ti (Qb (Qa (Qb (WQ.f3 ?_))))
 obtain rfl := oi h
 exact Tj ⟨g38, g39, vq36_2, vq36_3, cq36_3, hle34, rfl, (hρ 0), rfl, rfl, hq36_2, hq36_3⟩
 exact Tz
 exact Tz
 exact Tz
 have h := hk37
 refine Ta rfl (Al ze128 rfl) rfl ?_ ?_
 rintro _ _ _ - ⟨rfl, g40, rfl, rfl⟩
 refine ⟨(Ss rfl (Xt rfl rfl) rfl (Ss rfl (Xt rfl rfl) rfl (Ss rfl (Mv rfl) rfl (Ss rfl (Bl (cl := [(Iv 3), (Iv a1), (Iv 0)]) ze132 fp132 (Pc (Iv 3) rfl rfl (Pc (Iv a1) rfl rfl Pz)) rfl) rfl (Ss rfl (Mv (hρ 1)) rfl (Ss rfl (La (cs := (l50 a0.S)) 2 ag50 sz50 rfl rfl rfl) rfl (Ss rfl (Fa fo57_1 rfl rfl) rfl (Ss rfl (Nk rfl) rfl (Ss rfl (Mv (hρ 0)) rfl (Ss rfl (Lb 2 pl40 rfl rfl rfl) rfl (Ss rfl (Fa fo57_0 rfl rfl) rfl (Ss rfl (Nk rfl) rfl (Ss rfl (Mv (hρ 0)) rfl trivial))))))))))))), ?_⟩
 refine Ta rfl (Al ze50 rfl) rfl ?_ ?_
 rintro _ _ _ - ⟨rfl, g41, rfl, rfl⟩
 refine ⟨(Ss rfl (Xt rfl rfl) rfl (Ss rfl (Xt rfl rfl) rfl (Ss rfl (Mv rfl) rfl (Ss rfl (Bl (cl := [(Iv 3), (Iv a1), (Iv 0)]) ze132 fp132 (Pc (Iv 3) rfl rfl (Pc (Iv a1) rfl rfl Pz)) rfl) rfl (Ss rfl (Mv (hρ 1)) rfl (Ss rfl (La (cs := (l50 a0.S)) 3 ag50 sz50 rfl rfl rfl) rfl (Ss rfl (Fa fo57_1 rfl rfl) rfl (Ss rfl (Nk rfl) rfl (Ss rfl (Mv (hρ 0)) rfl (Ss rfl (Lb 3 pl40 rfl rfl rfl) rfl (Ss rfl (Fa fo57_0 rfl rfl) rfl (Ss rfl (Nk rfl) rfl (Ss rfl (Mv (hρ 0)) rfl trivial))))))))))))), ?_⟩
 refine Ta rfl (Sg (v := (a50_ r30)) (vl := (l50 r30)) (arr' := (l50 r30)) rfl sz50 rfl rfl (onb rfl) rfl rfl rfl) rfl ?_ ?_
 rintro _ _ _ - ⟨rfl, rfl⟩
 refine ⟨(Ss rfl (Xt rfl rfl) rfl (Sl rfl)), ?_⟩
 refine WT.f1 (Ta rfl (Sg (v := (a128_ r31 vq36_2 vq36_3)) (vl := (l128 r31 vq36_2 vq36_3)) (arr' := (l128 r31 vq36_2 vq36_3)) rfl sz128 rfl rfl (onesOf (Oc rfl (Oc rfl (Oc (RS.one hq36_2) (Oc (Ow hq36_3) Oz))))) rfl rfl rfl) rfl ?_ ?_)
 rintro _ _ _ - ⟨rfl, rfl⟩
 refine ⟨(Sl rfl), ?_⟩
 refine Ti (Qb (Qa (Qb (WQ.f3 ?_))))
 obtain rfl := oi h
 exact Tj ⟨g41, g40, vq36_2, vq36_3, cq36_3, hle34, rfl, (hρ 0), rfl, rfl, hq36_2, hq36_3⟩
 exact Tz
 exact Tz
 exact Tz
 exact Tz
 have h := hk29
 have hk42 := h
 refine Ta rfl (Al ze50 rfl) rfl ?_ ?_
 rintro _ _ _ - ⟨rfl, g43, rfl, rfl⟩
 refine ⟨(Ss rfl (Bl (cl := [(Iv 3), (Iv a1), (Iv 0)]) ze132 fp132 (Pc (Iv 3) rfl rfl (Pc (Iv a1) rfl rfl Pz)) rfl) rfl (Ss rfl (Mv (hρ 1)) rfl (Ss rfl (La (cs := (l50 a0.S)) 1 ag50 sz50 rfl rfl rfl) rfl (Ss rfl (Fa fo57_1 rfl rfl) rfl (Ss rfl (Nk rfl) rfl (Ss rfl (Mv (hρ 0)) rfl (Ss rfl (Lb 1 pl40 rfl rfl rfl) rfl (Ss rfl (Fa fo57_0 rfl rfl) rfl (Ss rfl (Nk rfl) rfl (Ss rfl (Mv (hρ 0)) rfl trivial)))))))))), ?_⟩
 have hk44 := h
 obtain ⟨⟨r45, r46⟩, hr47, h⟩ := bnd h
 refine Ta rfl (Ca co87 (f_ref02_Read_ok a0.B a0.S (⟨(3 : Int), a1, (0 : Int)⟩ : T_ref02_Ask) _ _ h0_0 (r45, r46) hr47) (args3 rfl rfl rfl)) rfl ?_ ?_
 rintro _ M48 _ hle49 ⟨_, ⟨vq51_2, vq51_3, cq51_3, rfl, rfl, hq51_2, hq51_3⟩, rfl⟩
 refine ⟨(Sl rfl), ?_⟩
 refine WT.a1 (Tp (.tuple #[(a50_ r45), (a128_ r46 vq51_2 vq51_3)]) rfl (Mv rfl) rfl (Tp (a50_ r45) rfl (Xt rfl rfl) rfl (Tp (a128_ r46 vq51_2 vq51_3) rfl (Xt rfl rfl) rfl (Ta rfl (Al ze128 rfl) rfl ?_ ?_))))
 rintro _ _ _ - ⟨rfl, g52, rfl, rfl⟩
 refine ⟨(Ss rfl (Xt rfl rfl) rfl (Ss rfl (Xt rfl rfl) rfl (Ss rfl (Mv rfl) rfl (Ss rfl (Bl (cl := [(Iv 3), (Iv a1), (Iv 0)]) ze132 fp132 (Pc (Iv 3) rfl rfl (Pc (Iv a1) rfl rfl Pz)) rfl) rfl (Ss rfl (Mv (hρ 1)) rfl (Ss rfl (La (cs := (l50 a0.S)) 3 ag50 sz50 rfl rfl rfl) rfl (Ss rfl (Fa fo57_1 rfl rfl) rfl (Ss rfl (Nk rfl) rfl (Ss rfl (Mv (hρ 0)) rfl (Ss rfl (Lb 3 pl40 rfl rfl rfl) rfl (Ss rfl (Fa fo57_0 rfl rfl) rfl (Ss rfl (Nk rfl) rfl (Ss rfl (Mv (hρ 0)) rfl trivial))))))))))))), ?_⟩
 refine WT.f2 (Ta rfl (Sg (v := (a50_ r45)) (vl := (l50 r45)) (arr' := (l50 r45)) rfl sz50 rfl rfl (onb rfl) rfl rfl rfl) rfl ?_ ?_)
 rintro _ _ _ - ⟨rfl, rfl⟩
 refine ⟨(Ss rfl (Xt rfl rfl) rfl (Sl rfl)), ?_⟩
 refine WT.f1 (Ta rfl (Sg (v := (a128_ r46 vq51_2 vq51_3)) (vl := (l128 r46 vq51_2 vq51_3)) (arr' := (l128 r46 vq51_2 vq51_3)) rfl sz128 rfl rfl (onesOf (Oc rfl (Oc rfl (Oc (RS.one hq51_2) (Oc (Ow hq51_3) Oz))))) rfl rfl rfl) rfl ?_ ?_)
 rintro _ _ _ - ⟨rfl, rfl⟩
 refine ⟨(Sl rfl), ?_⟩
 refine Ti (Qb (Qa (Qb (WQ.f3 ?_))))
 obtain rfl := oi h
 exact Tj ⟨g43, g52, vq51_2, vq51_3, cq51_3, hle49, rfl, (hρ 0), rfl, rfl, hq51_2, hq51_3⟩
 exact Tz
 exact Tz
 exact Tz
 have h := hk44
 refine Ta rfl (Al ze128 rfl) rfl ?_ ?_
 rintro _ _ _ - ⟨rfl, g53, rfl, rfl⟩
 refine ⟨(Ss rfl (Bl (cl := [(Iv 3), (Iv a1), (Iv 0)]) ze132 fp132 (Pc (Iv 3) rfl rfl (Pc (Iv a1) rfl rfl Pz)) rfl) rfl (Ss rfl (Mv (hρ 1)) rfl (Ss rfl (La (cs := (l50 a0.S)) 2 ag50 sz50 rfl rfl rfl) rfl (Ss rfl (Fa fo57_1 rfl rfl) rfl (Ss rfl (Nk rfl) rfl (Ss rfl (Mv (hρ 0)) rfl (Ss rfl (Lb 2 pl40 rfl rfl rfl) rfl (Ss rfl (Fa fo57_0 rfl rfl) rfl (Ss rfl (Nk rfl) rfl (Ss rfl (Mv (hρ 0)) rfl trivial)))))))))), ?_⟩
 obtain ⟨⟨r54, r55⟩, hr56, h⟩ := bnd h
 refine Ta rfl (Ca co87 (f_ref02_Read_ok a0.B a0.S (⟨(3 : Int), a1, (0 : Int)⟩ : T_ref02_Ask) _ _ h0_0 (r54, r55) hr56) (args3 rfl rfl rfl)) rfl ?_ ?_
 rintro _ M57 _ hle58 ⟨_, ⟨vq60_2, vq60_3, cq60_3, rfl, rfl, hq60_2, hq60_3⟩, rfl⟩
 refine ⟨(Sl rfl), ?_⟩
 refine WT.a1 (Tp (.tuple #[(a50_ r54), (a128_ r55 vq60_2 vq60_3)]) rfl (Mv rfl) rfl (Tp (a50_ r54) rfl (Xt rfl rfl) rfl (Tp (a128_ r55 vq60_2 vq60_3) rfl (Xt rfl rfl) rfl (WT.f2 (Ta rfl (Sg (v := (a50_ r54)) (vl := (l50 r54)) (arr' := (l50 r54)) rfl sz50 rfl rfl (onb rfl) rfl rfl rfl) rfl ?_ ?_)))))
 rintro _ _ _ - ⟨rfl, rfl⟩
 refine ⟨(Ss rfl (Xt rfl rfl) rfl (Sl rfl)), ?_⟩
 refine WT.f2 (Ta rfl (Sg (v := (a128_ r55 vq60_2 vq60_3)) (vl := (l128 r55 vq60_2 vq60_3)) (arr' := (l128 r55 vq60_2 vq60_3)) rfl sz128 rfl rfl (onesOf (Oc rfl (Oc rfl (Oc (RS.one hq60_2) (Oc (Ow hq60_3) Oz))))) rfl rfl rfl) rfl ?_ ?_)
 rintro _ _ _ - ⟨rfl, rfl⟩
 refine ⟨(Sl rfl), ?_⟩
 refine Ti (Qb (Qa (Qb (WQ.f3 ?_))))
 obtain rfl := oi h
 exact Tj ⟨g43, g53, vq60_2, vq60_3, cq60_3, hle58, rfl, (hρ 0), rfl, rfl, hq60_2, hq60_3⟩
 exact Tz
 exact Tz
 exact Tz
 exact Tz
 have h := hk42
 refine Ta rfl (Al ze128 rfl) rfl ?_ ?_
 rintro _ _ _ - ⟨rfl, g61, rfl, rfl⟩
 refine ⟨(Ss rfl (Bl (cl := [(Iv 3), (Iv a1), (Iv 0)]) ze132 fp132 (Pc (Iv 3) rfl rfl (Pc (Iv a1) rfl rfl Pz)) rfl) rfl (Ss rfl (Mv (hρ 1)) rfl (Ss rfl (La (cs := (l50 a0.S)) 1 ag50 sz50 rfl rfl rfl) rfl (Ss rfl (Fa fo57_1 rfl rfl) rfl (Ss rfl (Nk rfl) rfl (Ss rfl (Mv (hρ 0)) rfl (Ss rfl (Lb 1 pl40 rfl rfl rfl) rfl (Ss rfl (Fa fo57_0 rfl rfl) rfl (Ss rfl (Nk rfl) rfl (Ss rfl (Mv (hρ 0)) rfl trivial)))))))))), ?_⟩
 have hk62 := h
 obtain ⟨⟨r63, r64⟩, hr65, h⟩ := bnd h
 refine Ta rfl (Ca co87 (f_ref02_Read_ok a0.B a0.S (⟨(3 : Int), a1, (0 : Int)⟩ : T_ref02_Ask) _ _ h0_0 (r63, r64) hr65) (args3 rfl rfl rfl)) rfl ?_ ?_
 rintro _ M66 _ hle67 ⟨_, ⟨vq69_2, vq69_3, cq69_3, rfl, rfl, hq69_2, hq69_3⟩, rfl⟩
 refine ⟨(Sl rfl), ?_⟩
 refine WT.a1 (Tp (.tuple #[(a50_ r63), (a128_ r64 vq69_2 vq69_3)]) rfl (Mv rfl) rfl (Tp (a50_ r63) rfl (Xt rfl rfl) rfl (Tp (a128_ r64 vq69_2 vq69_3) rfl (Xt rfl rfl) rfl (Ta rfl (Al ze50 rfl) rfl ?_ ?_))))
 rintro _ _ _ - ⟨rfl, g70, rfl, rfl⟩
 refine ⟨(Ss rfl (Xt rfl rfl) rfl (Ss rfl (Xt rfl rfl) rfl (Ss rfl (Mv rfl) rfl (Ss rfl (Bl (cl := [(Iv 3), (Iv a1), (Iv 0)]) ze132 fp132 (Pc (Iv 3) rfl rfl (Pc (Iv a1) rfl rfl Pz)) rfl) rfl (Ss rfl (Mv (hρ 1)) rfl (Ss rfl (La (cs := (l50 a0.S)) 3 ag50 sz50 rfl rfl rfl) rfl (Ss rfl (Fa fo57_1 rfl rfl) rfl (Ss rfl (Nk rfl) rfl (Ss rfl (Mv (hρ 0)) rfl (Ss rfl (Lb 3 pl40 rfl rfl rfl) rfl (Ss rfl (Fa fo57_0 rfl rfl) rfl (Ss rfl (Nk rfl) rfl (Ss rfl (Mv (hρ 0)) rfl trivial))))))))))))), ?_⟩
 refine Ta rfl (Sg (v := (a50_ r63)) (vl := (l50 r63)) (arr' := (l50 r63)) rfl sz50 rfl rfl (onb rfl) rfl rfl rfl) rfl ?_ ?_
 rintro _ _ _ - ⟨rfl, rfl⟩
 refine ⟨(Ss rfl (Xt rfl rfl) rfl (Sl rfl)), ?_⟩
 refine WT.f2 (Ta rfl (Sg (v := (a128_ r64 vq69_2 vq69_3)) (vl := (l128 r64 vq69_2 vq69_3)) (arr' := (l128 r64 vq69_2 vq69_3)) rfl sz128 rfl rfl (onesOf (Oc rfl (Oc rfl (Oc (RS.one hq69_2) (Oc (Ow hq69_3) Oz))))) rfl rfl rfl) rfl ?_ ?_)
 rintro _ _ _ - ⟨rfl, rfl⟩
 refine ⟨(Sl rfl), ?_⟩
 refine Ti (Qb (Qa (Qb (WQ.f3 ?_))))
 obtain rfl := oi h
 exact Tj ⟨g70, g61, vq69_2, vq69_3, cq69_3, hle67, rfl, (hρ 0), rfl, rfl, hq69_2, hq69_3⟩
 exact Tz
 exact Tz
 exact Tz
 have h := hk62
 refine Ta rfl (Al ze50 rfl) rfl ?_ ?_
 rintro _ _ _ - ⟨rfl, g71, rfl, rfl⟩
 refine ⟨(Ss rfl (Bl (cl := [(Iv 3), (Iv a1), (Iv 0)]) ze132 fp132 (Pc (Iv 3) rfl rfl (Pc (Iv a1) rfl rfl Pz)) rfl) rfl (Ss rfl (Mv (hρ 1)) rfl (Ss rfl (La (cs := (l50 a0.S)) 2 ag50 sz50 rfl rfl rfl) rfl (Ss rfl (Fa fo57_1 rfl rfl) rfl (Ss rfl (Nk rfl) rfl (Ss rfl (Mv (hρ 0)) rfl (Ss rfl (Lb 2 pl40 rfl rfl rfl) rfl (Ss rfl (Fa fo57_0 rfl rfl) rfl (Ss rfl (Nk rfl) rfl (Ss rfl (Mv (hρ 0)) rfl trivial)))))))))), ?_⟩
 obtain ⟨⟨r72, r73⟩, hr74, h⟩ := bnd h
 refine Ta rfl (Ca co87 (f_ref02_Read_ok a0.B a0.S (⟨(3 : Int), a1, (0 : Int)⟩ : T_ref02_Ask) _ _ h0_0 (r72, r73) hr74) (args3 rfl rfl rfl)) rfl ?_ ?_
 rintro _ M75 _ hle76 ⟨_, ⟨vq78_2, vq78_3, cq78_3, rfl, rfl, hq78_2, hq78_3⟩, rfl⟩
 refine ⟨(Sl rfl), ?_⟩
 refine WT.a1 (Tp (.tuple #[(a50_ r72), (a128_ r73 vq78_2 vq78_3)]) rfl (Mv rfl) rfl (Tp (a50_ r72) rfl (Xt rfl rfl) rfl (Tp (a128_ r73 vq78_2 vq78_3) rfl (Xt rfl rfl) rfl (WT.f1 (Ta rfl (Sg (v := (a50_ r72)) (vl := (l50 r72)) (arr' := (l50 r72)) rfl sz50 rfl rfl (onb rfl) rfl rfl rfl) rfl ?_ ?_)))))
 rintro _ _ _ - ⟨rfl, rfl⟩
 refine ⟨(Ss rfl (Xt rfl rfl) rfl (Sl rfl)), ?_⟩
 refine WT.f2 (Ta rfl (Sg (v := (a128_ r73 vq78_2 vq78_3)) (vl := (l128 r73 vq78_2 vq78_3)) (arr' := (l128 r73 vq78_2 vq78_3)) rfl sz128 rfl rfl (onesOf (Oc rfl (Oc rfl (Oc (RS.one hq78_2) (Oc (Ow hq78_3) Oz))))) rfl rfl rfl) rfl ?_ ?_)
 rintro _ _ _ - ⟨rfl, rfl⟩
 refine ⟨(Sl rfl), ?_⟩
 refine Ti (Qb (Qa (Qb (WQ.f3 ?_))))
 obtain rfl := oi h
 exact Tj ⟨g71, g61, vq78_2, vq78_3, cq78_3, hle76, rfl, (hρ 0), rfl, rfl, hq78_2, hq78_3⟩
 exact Tz
 exact Tz
 exact Tz
 exact Tz
 exact Tz
 obtain ⟨x22, x24, x25, x26, x27⟩ := j28
 rintro ρ28 M28 H28 ⟨g21, g23, vx26, vx27, cx27, hle28, rfl, hs28_0, hs28_5, hs28_6, hx26, hx27⟩
 refine Sr (Pm (pt g0 0) hs28_0 rfl (Pu (a50_ x22) (La (cs := (l50 x22)) 1 ag50 sz50 hs28_5 rfl rfl) rfl (Pu (pt g0 0) (Nk rfl) rfl (Pu (pt g0 1) (Fa fo57_1 rfl rfl) rfl (We (Sg (v := (a50_ x22)) (vl := (l50 x22)) (arr' := [v0_0, (Iv x22.At), (Iv x22.Code), (Sv x22.Op), (Iv x22.Where)]) rfl sz50 rfl rfl (onb rfl) rfl rfl rfl) rfl ?_)))))
 rintro _ _ _ - ⟨rfl, rfl⟩
 refine Ns (Pu (pt g23 2) (Fa fo128_2 hs28_6 rfl) rfl (Pu vx26 (Lb 2 pl40 rfl rfl rfl) rfl (Pa vx26 rfl rfl (Nt (Cr (Qa (Dr (Qa (Dr (Qa (Dr ?_)))))))))))
 exact Rf h [[(g0, .cells #[v0_0, (Iv x22.At), (Iv x22.Code), (Sv x22.Op), (Iv x22.Where)] 57 (0, 0))]] rfl (Rs rfl rfl) hle28 ⟨vx26, rfl, rfl, hx26⟩

noncomputable def f_ref05_Cursor_word (a0 : T_ref05_Cursor) (a1 : Bool) : Option (ByteArray × Int × Int × ByteArray × Int) :=
  (if (!a1) = true then (some ((⟨#[]⟩ : ByteArray), a0.S.At, a0.S.Code, a0.S.Op, a0.S.Where)) else ((f_ref05_Cursor_Text a0 (256 : Int)).bind fun (r22, r23, r24, r25, r26) => (some (strOfNums r22, r23, r24, r25, r26))))
def f_ref05_Cursor_word_post (a0 : T_ref05_Cursor) (a1 : Bool) (v0_0 : Value) (g0 : Nat) : (ByteArray × Int × Int × ByteArray × Int) → Value → IM → HL → Prop :=
  fun (p_ : (ByteArray × Int × Int × ByteArray × Int)) (v : Value) (M' : IM) (H' : HL) => match p_ with | (r0, r1, r2, r3, r4) => (.string r0) = v ∧ H' = [[(g0, .cells #[v0_0, (.int .i64 r1), (.int .i64 r2), (.string r3), (.int .i64 r4)] 57 (0, 0))]]
theorem f_ref05_Cursor_word_ok (a0 : T_ref05_Cursor) (a1 : Bool) (M : IM) (v0_0 : Value) (g0 : Nat) (h0_0 : RS (Kd.int .u8) M v0_0 a0.B) (res : (ByteArray × Int × Int × ByteArray × Int)) (h : f_ref05_Cursor_word a0 a1 = some res) :
    Tri Tryz.prog 90 #[(pt g0 0), (Bv a1)] M [[(g0, .cells (l57 a0 v0_0).toArray 57 (0, 0))]] (f_ref05_Cursor_word_post a0 a1 v0_0 g0 res) := by
 unfold f_ref05_Cursor_word at h
 refine Te Tryz.func90 rfl rfl ?_
 intro F ρ hρ
 refine Sr (Pa (Sv ⟨#[]⟩) rfl rfl (Nt (Cs (Sr (Pm (Bv a1) (hρ 1) rfl (Pu (Bv (!a1)) (PO.not rfl) rfl (Nt (Cd (b := !a1) rfl (fun hb21 => ?_) (fun hb21 => ?_)))))))))
 have h := ite_t hb21 h
 exact Sr (Pa (Sv ⟨#[]⟩) rfl rfl (Nt (Cr (Tr (Rf h [[(g0, .cells (l57 a0 v0_0).toArray 57 (0, 0))]] rfl (Rs rfl rfl) lr ⟨rfl, rfl⟩)))))
 have h := ite_f hb21 h
 refine Ck (Tc (Sr (Pm (pt g0 0) (hρ 0) rfl ?_)))
 obtain ⟨⟨r22, r23, r24, r25, r26⟩, hr27, h⟩ := bnd h
 refine We (Cb co114 (f_ref05_Cursor_Text_ok a0 (256 : Int) _ _ _ h0_0 (r22, r23, r24, r25, r26) hr27) (args2 rfl rfl)) rfl ?_
 rintro _ M28 _ hle29 ⟨_, ⟨vq30, rfl, rfl, hq30⟩, rfl⟩
 exact WL.a1 (Pu (Sv (strOfNums r22)) (PO.b2s (ys := r22) Tryz.underlying40 Tryz.underlying5 Tryz.underlying9 rfl (hq30.src _)) rfl (Pa (Sv (strOfNums r22)) rfl rfl (Nt (Cr (Rf h [[(g0, .cells #[v0_0, (Iv r23), (Iv r24), (Sv r25), (Iv r26)] 57 (0, 0))]] rfl (Rs rfl rfl) hle29 ⟨rfl, rfl⟩)))))

noncomputable def f_ref05_Cursor_Row (a0 : T_ref05_Cursor) (a1 : Int) (a2 : Int) : Option ((List Int) × Int × Int × ByteArray × Int) :=
  ((((f_ref02_Read a0.B a0.S (⟨(4 : Int), a1, a2⟩ : T_ref02_Ask)).bind fun (r30, r31) => (some (r30, r31.Num, r31.Flag, r31.Text, r31.Row))) : Option (T_ref02_State × Int × Bool × (List Int) × (List Int))).bind fun (x22, x24, x25, x26, x27) => (some (x27, x22.At, x22.Code, x22.Op, x22.Where)))
def f_ref05_Cursor_Row_post (a0 : T_ref05_Cursor) (a1 : Int) (a2 : Int) (v0_0 : Value) (g0 : Nat) : ((List Int) × Int × Int × ByteArray × Int) → Value → IM → HL → Prop :=
  fun (p_ : ((List Int) × Int × Int × ByteArray × Int)) (v : Value) (M' : IM) (H' : HL) => match p_ with | (r0, r1, r2, r3, r4) => ∃ vz0 cz0, vz0 = v ∧ H' = [[(g0, .cells #[v0_0, (.int .i64 r1), (.int .i64 r2), (.string r3), (.int .i64 r4)] 57 (0, 0))], cz0] ∧ OwnS (Kd.int .i64) M' vz0 r0 cz0
theorem f_ref05_Cursor_Row_ok (a0 : T_ref05_Cursor) (a1 : Int) (a2 : Int) (M : IM) (v0_0 : Value) (g0 : Nat) (h0_0 : RS (Kd.int .u8) M v0_0 a0.B) (res : ((List Int) × Int × Int × ByteArray × Int)) (h : f_ref05_Cursor_Row a0 a1 a2 = some res) :
    Tri Tryz.prog 115 #[(pt g0 0), (Iv a1), (Iv a2)] M [[(g0, .cells (l57 a0 v0_0).toArray 57 (0, 0))]] (f_ref05_Cursor_Row_post a0 a1 a2 v0_0 g0 res) := by
 unfold f_ref05_Cursor_Row at h
 refine Te Tryz.func115 rfl rfl ?_
 intro F ρ hρ
 refine Sr (Pa Zs rfl rfl (Nt ?_))
 obtain ⟨j28, hj28, h⟩ := bnd h
 refine Jf (fun (p_ : (T_ref02_State × Int × Bool × (List Int) × (List Int))) ρ' M' H' => match p_ with | (x22, x24, x25, x26, x27) => ∃ g21 g23 vx26 vx27 cx27, M.le M' ∧ [(g0, .cells (l57 a0 v0_0).toArray 57 (0, 0))] :: [(g21, .cells (l50 x22).toArray 50 (0, 0))] :: [(g23, .cells #[(Uv x24), (Bv x25), vx26, vx27] 128 (0, 0))] :: cx27 :: F = H' ∧ ρ' 0 = (pt g0 0) ∧ ρ' 7 = (pt g21 0) ∧ ρ' 8 = (pt g23 0) ∧ RS (Kd.int .u8) M' vx26 x26 ∧ OwnS (Kd.int .i64) M' vx27 x27 cx27) j28 ?_ ?_
 have h328 := h
 have h := hj28
 refine WC.draw [0, 1, 3, 7, 0, 16, 48, 112, 0, 0, 768, 2047, 4095, 8191, 8191, 0, 0, 114687, 262143] (.pure 0 (.pure 1 (.pure 2 (.pure 3 (.pure 4 (.pure 5 (.pure 6 (.pure 7 (.pure 8 (.pure 9 (.pure 10 (.alt 11 (.pure 12 (.pure 13 (.pure 14 (.alt 15 (.alt 16 (.alt 17 (.alt 18 .done .none) .none) .none) (.alt 16 (.alt 15 (.alt 17 (.alt 18 .done .none) .none) .none) .none))))) (.alt 15 (.alt 11 (.pure 12 (.pure 13 (.pure 14 (.alt 16 (.alt 17 (.alt 18 .done .none) .none) .none)))) (.alt 16 (.alt 11 (.pure 12 (.pure 13 (.pure 14 (.alt 17 (.alt 18 .done .none) .none)))) .none) .none)) (.alt 16 (.alt 11 (.pure 12 (.pure 13 (.pure 14 (.alt 15 (.alt 17 (.alt 18 .done .none) .none) .none)))) (.alt 15 (.alt 11 (.pure 12 (.pure 13 (.pure 14 (.alt 17 (.alt 18 .done .none) .none)))) .none) .none)) .none)))))))))))))) mixed (by kernel_rfl) (Tp (pt g0 0) rfl (Mv (hρ 0)) rfl (Tp (pt g0 0) rfl (Nk rfl) rfl (Tp (pt g0 0) rfl (Fa fo57_0 rfl rfl) rfl (Tp v0_0 rfl (Lb 0 pl40 rfl rfl rfl) rfl (Tp (pt g0 0) rfl (Mv (hρ 0)) rfl (Tp (pt g0 0) rfl (Nk rfl) rfl (Tp (pt g0 1) rfl (Fa fo57_1 rfl rfl) rfl (Tp (a50_ a0.S) rfl (La (cs := (l50 a0.S)) 0 ag50 sz50 rfl rfl rfl) rfl (Tp (Iv a1) rfl (Mv (hρ 1)) rfl (Tp (Iv a2) rfl (Mv (hρ 2)) rfl (Tp (.agg #[(Iv 4), (Iv a1), (Iv a2)]) rfl (Bl (cl := [(Iv 4), (Iv a1), (Iv a2)]) ze132 fp132 (Pc (Iv 4) rfl rfl (Pc (Iv a1) rfl rfl (Pc (Iv a2) rfl rfl Pz))) rfl) rfl ?_)))))))))))
 have hk29 := h
 obtain ⟨⟨r30, r31⟩, hr32, h⟩ := bnd h
 refine Ta rfl (Ca co87 (f_ref02_Read_ok a0.B a0.S (⟨(4 : Int), a1, a2⟩ : T_ref02_Ask) _ _ h0_0 (r30, r31) hr32) (args3 rfl rfl rfl)) rfl ?_ ?_
 rintro _ M33 _ hle34 ⟨_, ⟨vq36_2, vq36_3, cq36_3, rfl, rfl, hq36_2, hq36_3⟩, rfl⟩
 refine ⟨(Sl rfl), ?_⟩
 refine WT.a1 (Tp (.tuple #[(a50_ r30), (a128_ r31 vq36_2 vq36_3)]) rfl (Mv rfl) rfl (Tp (a50_ r30) rfl (Xt rfl rfl) rfl (Tp (a128_ r31 vq36_2 vq36_3) rfl (Xt rfl rfl) rfl ?_)))
 have hk37 := h
 refine Ta rfl (Al ze50 rfl) rfl ?_ ?_
 rintro _ _ _ - ⟨rfl, g38, rfl, rfl⟩
 refine ⟨(Ss rfl (Xt rfl rfl) rfl (Ss rfl (Xt rfl rfl) rfl (Ss rfl (Mv rfl) rfl (Ss rfl (Bl (cl := [(Iv 4), (Iv a1), (Iv a2)]) ze132 fp132 (Pc (Iv 4) rfl rfl (Pc (Iv a1) rfl rfl (Pc (Iv a2) rfl rfl Pz))) rfl) rfl (Ss rfl (Mv (hρ 2)) rfl (Ss rfl (Mv (hρ 1)) rfl (Ss rfl (La (cs := (l50 a0.S)) 2 ag50 sz50 rfl rfl rfl) rfl (Ss rfl (Fa fo57_1 rfl rfl) rfl (Ss rfl (Nk rfl) rfl (Ss rfl (Mv (hρ 0)) rfl (Ss rfl (Lb 2 pl40 rfl rfl rfl) rfl (Ss rfl (Fa fo57_0 rfl rfl) rfl (Ss rfl (Nk rfl) rfl (Ss rfl (Mv (hρ 0)) rfl trivial)))))))))))))), ?_⟩
 refine Ta rfl (Al ze128 rfl) rfl ?_ ?_
 rintro _ _ _ - ⟨rfl, g39, rfl, rfl⟩
 refine ⟨(Ss rfl (Xt rfl rfl) rfl (Ss rfl (Xt rfl rfl) rfl (Ss rfl (Mv rfl) rfl (Ss rfl (Bl (cl := [(Iv 4), (Iv a1), (Iv a2)]) ze132 fp132 (Pc (Iv 4) rfl rfl (Pc (Iv a1) rfl rfl (Pc (Iv a2) rfl rfl Pz))) rfl) rfl (Ss rfl (Mv (hρ 2)) rfl (Ss rfl (Mv (hρ 1)) rfl (Ss rfl (La (cs := (l50 a0.S)) 3 ag50 sz50 rfl rfl rfl) rfl (Ss rfl (Fa fo57_1 rfl rfl) rfl (Ss rfl (Nk rfl) rfl (Ss rfl (Mv (hρ 0)) rfl (Ss rfl (Lb 3 pl40 rfl rfl rfl) rfl (Ss rfl (Fa fo57_0 rfl rfl) rfl (Ss rfl (Nk rfl) rfl (Ss rfl (Mv (hρ 0)) rfl trivial)))))))))))))), ?_⟩
 refine WT.f1 (Ta rfl (Sg (v := (a50_ r30)) (vl := (l50 r30)) (arr' := (l50 r30)) rfl sz50 rfl rfl (onb rfl) rfl rfl rfl) rfl ?_ ?_)
 rintro _ _ _ - ⟨rfl, rfl⟩
 refine ⟨(Ss rfl (Xt rfl rfl) rfl (Sl rfl)), ?_⟩
 refine WT.f1 (Ta rfl (Sg (v := (a128_ r31 vq36_2 vq36_3)) (vl := (l128 r31 vq36_2 vq36_3)) (arr' := (l128 r31 vq36_2 vq36_3)) rfl sz128 rfl rfl (onesOf (Oc rfl (Oc rfl (Oc (RS.one hq36_2) (Oc (Ow hq36_3) Oz))))) rfl rfl rfl) rfl ?_ ?_)
 rintro _ _ _ - ⟨rfl, rfl⟩
 refine ⟨(Sl rfl), ?_⟩
 refine Ti (Qb (Qa (Qb (WQ.f3 ?_))))
 obtain rfl := oi h
 exact Tj ⟨g38, g39, vq36_2, vq36_3, cq36_3, hle34, rfl, (hρ 0), rfl, rfl, hq36_2, hq36_3⟩
 exact Tz
 exact Tz
 exact Tz
 have h := hk37
 refine Ta rfl (Al ze128 rfl) rfl ?_ ?_
 rintro _ _ _ - ⟨rfl, g40, rfl, rfl⟩
 refine ⟨(Ss rfl (Xt rfl rfl) rfl (Ss rfl (Xt rfl rfl) rfl (Ss rfl (Mv rfl) rfl (Ss rfl (Bl (cl := [(Iv 4), (Iv a1), (Iv a2)]) ze132 fp132 (Pc (Iv 4) rfl rfl (Pc (Iv a1) rfl rfl (Pc (Iv a2) rfl rfl Pz))) rfl) rfl (Ss rfl (Mv (hρ 2)) rfl (Ss rfl (Mv (hρ 1)) rfl (Ss rfl (La (cs := (l50 a0.S)) 2 ag50 sz50 rfl rfl rfl) rfl (Ss rfl (Fa fo57_1 rfl rfl) rfl (Ss rfl (Nk rfl) rfl (Ss rfl (Mv (hρ 0)) rfl (Ss rfl (Lb 2 pl40 rfl rfl rfl) rfl (Ss rfl (Fa fo57_0 rfl rfl) rfl (Ss rfl (Nk rfl) rfl (Ss rfl (Mv (hρ 0)) rfl trivial)))))))))))))), ?_⟩
 refine Ta rfl (Al ze50 rfl) rfl ?_ ?_
 rintro _ _ _ - ⟨rfl, g41, rfl, rfl⟩
 refine ⟨(Ss rfl (Xt rfl rfl) rfl (Ss rfl (Xt rfl rfl) rfl (Ss rfl (Mv rfl) rfl (Ss rfl (Bl (cl := [(Iv 4), (Iv a1), (Iv a2)]) ze132 fp132 (Pc (Iv 4) rfl rfl (Pc (Iv a1) rfl rfl (Pc (Iv a2) rfl rfl Pz))) rfl) rfl (Ss rfl (Mv (hρ 2)) rfl (Ss rfl (Mv (hρ 1)) rfl (Ss rfl (La (cs := (l50 a0.S)) 3 ag50 sz50 rfl rfl rfl) rfl (Ss rfl (Fa fo57_1 rfl rfl) rfl (Ss rfl (Nk rfl) rfl (Ss rfl (Mv (hρ 0)) rfl (Ss rfl (Lb 3 pl40 rfl rfl rfl) rfl (Ss rfl (Fa fo57_0 rfl rfl) rfl (Ss rfl (Nk rfl) rfl (Ss rfl (Mv (hρ 0)) rfl trivial)))))))))))))), ?_⟩
 refine Ta rfl (Sg (v := (a50_ r30)) (vl := (l50 r30)) (arr' := (l50 r30)) rfl sz50 rfl rfl (onb rfl) rfl rfl rfl) rfl ?_ ?_
 rintro _ _ _ - ⟨rfl, rfl⟩
 refine ⟨(Ss rfl (Xt rfl rfl) rfl (Sl rfl)), ?_⟩
 refine WT.f1 (Ta rfl (Sg (v := (a128_ r31 vq36_2 vq36_3)) (vl := (l128 r31 vq36_2 vq36_3)) (arr' := (l128 r31 vq36_2 vq36_3)) rfl sz128 rfl rfl (onesOf (Oc rfl (Oc rfl (Oc (RS.one hq36_2) (Oc (Ow hq36_3) Oz))))) rfl rfl rfl) rfl ?_ ?_)
 rintro _ _ _ - ⟨rfl, rfl⟩
 refine ⟨(Sl rfl), ?_⟩
 refine Ti (Qb (Qa (Qb (WQ.f3 ?_))))
 obtain rfl := oi h
 exact Tj ⟨g41, g40, vq36_2, vq36_3, cq36_3, hle34, rfl, (hρ 0), rfl, rfl, hq36_2, hq36_3⟩
 exact Tz
 exact Tz
 exact Tz
 exact Tz
 have h := hk29
 have hk42 := h
 refine Ta rfl (Al ze50 rfl) rfl ?_ ?_
 rintro _ _ _ - ⟨rfl, g43, rfl, rfl⟩
 refine ⟨(Ss rfl (Bl (cl := [(Iv 4), (Iv a1), (Iv a2)]) ze132 fp132 (Pc (Iv 4) rfl rfl (Pc (Iv a1) rfl rfl (Pc (Iv a2) rfl rfl Pz))) rfl) rfl (Ss rfl (Mv (hρ 2)) rfl (Ss rfl (Mv (hρ 1)) rfl (Ss rfl (La (cs := (l50 a0.S)) 1 ag50 sz50 rfl rfl rfl) rfl (Ss rfl (Fa fo57_1 rfl rfl) rfl (Ss rfl (Nk rfl) rfl (Ss rfl (Mv (hρ 0)) rfl (Ss rfl (Lb 1 pl40 rfl rfl rfl) rfl (Ss rfl (Fa fo57_0 rfl rfl) rfl (Ss rfl (Nk rfl) rfl (Ss rfl (Mv (hρ 0)) rfl trivial))))))))))), ?_⟩
 have hk44 := h
 obtain ⟨⟨r45, r46⟩, hr47, h⟩ := bnd h
 refine Ta rfl (Ca co87 (f_ref02_Read_ok a0.B a0.S (⟨(4 : Int), a1, a2⟩ : T_ref02_Ask) _ _ h0_0 (r45, r46) hr47) (args3 rfl rfl rfl)) rfl ?_ ?_
 rintro _ M48 _ hle49 ⟨_, ⟨vq51_2, vq51_3, cq51_3, rfl, rfl, hq51_2, hq51_3⟩, rfl⟩
 refine ⟨(Sl rfl), ?_⟩
 refine WT.a1 (Tp (.tuple #[(a50_ r45), (a128_ r46 vq51_2 vq51_3)]) rfl (Mv rfl) rfl (Tp (a50_ r45) rfl (Xt rfl rfl) rfl (Tp (a128_ r46 vq51_2 vq51_3) rfl (Xt rfl rfl) rfl (Ta rfl (Al ze128 rfl) rfl ?_ ?_))))
 rintro _ _ _ - ⟨rfl, g52, rfl, rfl⟩
 refine ⟨(Ss rfl (Xt rfl rfl) rfl (Ss rfl (Xt rfl rfl) rfl (Ss rfl (Mv rfl) rfl (Ss rfl (Bl (cl := [(Iv 4), (Iv a1), (Iv a2)]) ze132 fp132 (Pc (Iv 4) rfl rfl (Pc (Iv a1) rfl rfl (Pc (Iv a2) rfl rfl Pz))) rfl) rfl (Ss rfl (Mv (hρ 2)) rfl (Ss rfl (Mv (hρ 1)) rfl (Ss rfl (La (cs := (l50 a0.S)) 3 ag50 sz50 rfl rfl rfl) rfl (Ss rfl (Fa fo57_1 rfl rfl) rfl (Ss rfl (Nk rfl) rfl (Ss rfl (Mv (hρ 0)) rfl (Ss rfl (Lb 3 pl40 rfl rfl rfl) rfl (Ss rfl (Fa fo57_0 rfl rfl) rfl (Ss rfl (Nk rfl) rfl (Ss rfl (Mv (hρ 0)) rfl trivial)))))))))))))), ?_⟩
 refine WT.f2 (Ta rfl (Sg (v := (a50_ r45)) (vl := (l50 r45)) (arr' := (l50 r45)) rfl sz50 rfl rfl (onb rfl) rfl rfl rfl) rfl ?_ ?_)
 rintro _ _ _ - ⟨rfl, rfl⟩
 refine ⟨(Ss rfl (Xt rfl rfl) rfl (Sl rfl)), ?_⟩
 refine WT.f1 (Ta rfl (Sg (v := (a128_ r46 vq51_2 vq51_3)) (vl := (l128 r46 vq51_2 vq51_3)) (arr' := (l128 r46 vq51_2 vq51_3)) rfl sz128 rfl rfl (onesOf (Oc rfl (Oc rfl (Oc (RS.one hq51_2) (Oc (Ow hq51_3) Oz))))) rfl rfl rfl) rfl ?_ ?_)
 rintro _ _ _ - ⟨rfl, rfl⟩
 refine ⟨(Sl rfl), ?_⟩
 refine Ti (Qb (Qa (Qb (WQ.f3 ?_))))
 obtain rfl := oi h
 exact Tj ⟨g43, g52, vq51_2, vq51_3, cq51_3, hle49, rfl, (hρ 0), rfl, rfl, hq51_2, hq51_3⟩
 exact Tz
 exact Tz
 exact Tz
 have h := hk44
 refine Ta rfl (Al ze128 rfl) rfl ?_ ?_
 rintro _ _ _ - ⟨rfl, g53, rfl, rfl⟩
 refine ⟨(Ss rfl (Bl (cl := [(Iv 4), (Iv a1), (Iv a2)]) ze132 fp132 (Pc (Iv 4) rfl rfl (Pc (Iv a1) rfl rfl (Pc (Iv a2) rfl rfl Pz))) rfl) rfl (Ss rfl (Mv (hρ 2)) rfl (Ss rfl (Mv (hρ 1)) rfl (Ss rfl (La (cs := (l50 a0.S)) 2 ag50 sz50 rfl rfl rfl) rfl (Ss rfl (Fa fo57_1 rfl rfl) rfl (Ss rfl (Nk rfl) rfl (Ss rfl (Mv (hρ 0)) rfl (Ss rfl (Lb 2 pl40 rfl rfl rfl) rfl (Ss rfl (Fa fo57_0 rfl rfl) rfl (Ss rfl (Nk rfl) rfl (Ss rfl (Mv (hρ 0)) rfl trivial))))))))))), ?_⟩
 obtain ⟨⟨r54, r55⟩, hr56, h⟩ := bnd h
 refine Ta rfl (Ca co87 (f_ref02_Read_ok a0.B a0.S (⟨(4 : Int), a1, a2⟩ : T_ref02_Ask) _ _ h0_0 (r54, r55) hr56) (args3 rfl rfl rfl)) rfl ?_ ?_
 rintro _ M57 _ hle58 ⟨_, ⟨vq60_2, vq60_3, cq60_3, rfl, rfl, hq60_2, hq60_3⟩, rfl⟩
 refine ⟨(Sl rfl), ?_⟩
 refine WT.a1 (Tp (.tuple #[(a50_ r54), (a128_ r55 vq60_2 vq60_3)]) rfl (Mv rfl) rfl (Tp (a50_ r54) rfl (Xt rfl rfl) rfl (Tp (a128_ r55 vq60_2 vq60_3) rfl (Xt rfl rfl) rfl (WT.f2 (Ta rfl (Sg (v := (a50_ r54)) (vl := (l50 r54)) (arr' := (l50 r54)) rfl sz50 rfl rfl (onb rfl) rfl rfl rfl) rfl ?_ ?_)))))
 rintro _ _ _ - ⟨rfl, rfl⟩
 refine ⟨(Ss rfl (Xt rfl rfl) rfl (Sl rfl)), ?_⟩
 refine WT.f2 (Ta rfl (Sg (v := (a128_ r55 vq60_2 vq60_3)) (vl := (l128 r55 vq60_2 vq60_3)) (arr' := (l128 r55 vq60_2 vq60_3)) rfl sz128 rfl rfl (onesOf (Oc rfl (Oc rfl (Oc (RS.one hq60_2) (Oc (Ow hq60_3) Oz))))) rfl rfl rfl) rfl ?_ ?_)
 rintro _ _ _ - ⟨rfl, rfl⟩
 refine ⟨(Sl rfl), ?_⟩
 refine Ti (Qb (Qa (Qb (WQ.f3 ?_))))
 obtain rfl := oi h
 exact Tj ⟨g43, g53, vq60_2, vq60_3, cq60_3, hle58, rfl, (hρ 0), rfl, rfl, hq60_2, hq60_3⟩
 exact Tz
 exact Tz
 exact Tz
 exact Tz
 have h := hk42
 refine Ta rfl (Al ze128 rfl) rfl ?_ ?_
 rintro _ _ _ - ⟨rfl, g61, rfl, rfl⟩
 refine ⟨(Ss rfl (Bl (cl := [(Iv 4), (Iv a1), (Iv a2)]) ze132 fp132 (Pc (Iv 4) rfl rfl (Pc (Iv a1) rfl rfl (Pc (Iv a2) rfl rfl Pz))) rfl) rfl (Ss rfl (Mv (hρ 2)) rfl (Ss rfl (Mv (hρ 1)) rfl (Ss rfl (La (cs := (l50 a0.S)) 1 ag50 sz50 rfl rfl rfl) rfl (Ss rfl (Fa fo57_1 rfl rfl) rfl (Ss rfl (Nk rfl) rfl (Ss rfl (Mv (hρ 0)) rfl (Ss rfl (Lb 1 pl40 rfl rfl rfl) rfl (Ss rfl (Fa fo57_0 rfl rfl) rfl (Ss rfl (Nk rfl) rfl (Ss rfl (Mv (hρ 0)) rfl trivial))))))))))), ?_⟩
 have hk62 := h
 obtain ⟨⟨r63, r64⟩, hr65, h⟩ := bnd h
 refine Ta rfl (Ca co87 (f_ref02_Read_ok a0.B a0.S (⟨(4 : Int), a1, a2⟩ : T_ref02_Ask) _ _ h0_0 (r63, r64) hr65) (args3 rfl rfl rfl)) rfl ?_ ?_
 rintro _ M66 _ hle67 ⟨_, ⟨vq69_2, vq69_3, cq69_3, rfl, rfl, hq69_2, hq69_3⟩, rfl⟩
 refine ⟨(Sl rfl), ?_⟩
 refine WT.a1 (Tp (.tuple #[(a50_ r63), (a128_ r64 vq69_2 vq69_3)]) rfl (Mv rfl) rfl (Tp (a50_ r63) rfl (Xt rfl rfl) rfl (Tp (a128_ r64 vq69_2 vq69_3) rfl (Xt rfl rfl) rfl (Ta rfl (Al ze50 rfl) rfl ?_ ?_))))
 rintro _ _ _ - ⟨rfl, g70, rfl, rfl⟩
 refine ⟨(Ss rfl (Xt rfl rfl) rfl (Ss rfl (Xt rfl rfl) rfl (Ss rfl (Mv rfl) rfl (Ss rfl (Bl (cl := [(Iv 4), (Iv a1), (Iv a2)]) ze132 fp132 (Pc (Iv 4) rfl rfl (Pc (Iv a1) rfl rfl (Pc (Iv a2) rfl rfl Pz))) rfl) rfl (Ss rfl (Mv (hρ 2)) rfl (Ss rfl (Mv (hρ 1)) rfl (Ss rfl (La (cs := (l50 a0.S)) 3 ag50 sz50 rfl rfl rfl) rfl (Ss rfl (Fa fo57_1 rfl rfl) rfl (Ss rfl (Nk rfl) rfl (Ss rfl (Mv (hρ 0)) rfl (Ss rfl (Lb 3 pl40 rfl rfl rfl) rfl (Ss rfl (Fa fo57_0 rfl rfl) rfl (Ss rfl (Nk rfl) rfl (Ss rfl (Mv (hρ 0)) rfl trivial)))))))))))))), ?_⟩
 refine Ta rfl (Sg (v := (a50_ r63)) (vl := (l50 r63)) (arr' := (l50 r63)) rfl sz50 rfl rfl (onb rfl) rfl rfl rfl) rfl ?_ ?_
 rintro _ _ _ - ⟨rfl, rfl⟩
 refine ⟨(Ss rfl (Xt rfl rfl) rfl (Sl rfl)), ?_⟩
 refine WT.f2 (Ta rfl (Sg (v := (a128_ r64 vq69_2 vq69_3)) (vl := (l128 r64 vq69_2 vq69_3)) (arr' := (l128 r64 vq69_2 vq69_3)) rfl sz128 rfl rfl (onesOf (Oc rfl (Oc rfl (Oc (RS.one hq69_2) (Oc (Ow hq69_3) Oz))))) rfl rfl rfl) rfl ?_ ?_)
 rintro _ _ _ - ⟨rfl, rfl⟩
 refine ⟨(Sl rfl), ?_⟩
 refine Ti (Qb (Qa (Qb (WQ.f3 ?_))))
 obtain rfl := oi h
 exact Tj ⟨g70, g61, vq69_2, vq69_3, cq69_3, hle67, rfl, (hρ 0), rfl, rfl, hq69_2, hq69_3⟩
 exact Tz
 exact Tz
 exact Tz
 have h := hk62
 refine Ta rfl (Al ze50 rfl) rfl ?_ ?_
 rintro _ _ _ - ⟨rfl, g71, rfl, rfl⟩
 refine ⟨(Ss rfl (Bl (cl := [(Iv 4), (Iv a1), (Iv a2)]) ze132 fp132 (Pc (Iv 4) rfl rfl (Pc (Iv a1) rfl rfl (Pc (Iv a2) rfl rfl Pz))) rfl) rfl (Ss rfl (Mv (hρ 2)) rfl (Ss rfl (Mv (hρ 1)) rfl (Ss rfl (La (cs := (l50 a0.S)) 2 ag50 sz50 rfl rfl rfl) rfl (Ss rfl (Fa fo57_1 rfl rfl) rfl (Ss rfl (Nk rfl) rfl (Ss rfl (Mv (hρ 0)) rfl (Ss rfl (Lb 2 pl40 rfl rfl rfl) rfl (Ss rfl (Fa fo57_0 rfl rfl) rfl (Ss rfl (Nk rfl) rfl (Ss rfl (Mv (hρ 0)) rfl trivial))))))))))), ?_⟩
 obtain ⟨⟨r72, r73⟩, hr74, h⟩ := bnd h
 refine Ta rfl (Ca co87 (f_ref02_Read_ok a0.B a0.S (⟨(4 : Int), a1, a2⟩ : T_ref02_Ask) _ _ h0_0 (r72, r73) hr74) (args3 rfl rfl rfl)) rfl ?_ ?_
 rintro _ M75 _ hle76 ⟨_, ⟨vq78_2, vq78_3, cq78_3, rfl, rfl, hq78_2, hq78_3⟩, rfl⟩
 refine ⟨(Sl rfl), ?_⟩
 refine WT.a1 (Tp (.tuple #[(a50_ r72), (a128_ r73 vq78_2 vq78_3)]) rfl (Mv rfl) rfl (Tp (a50_ r72) rfl (Xt rfl rfl) rfl (Tp (a128_ r73 vq78_2 vq78_3) rfl (Xt rfl rfl) rfl (WT.f1 (Ta rfl (Sg (v := (a50_ r72)) (vl := (l50 r72)) (arr' := (l50 r72)) rfl sz50 rfl rfl (onb rfl) rfl rfl rfl) rfl ?_ ?_)))))
 rintro _ _ _ - ⟨rfl, rfl⟩
 refine ⟨(Ss rfl (Xt rfl rfl) rfl (Sl rfl)), ?_⟩
 refine WT.f2 (Ta rfl (Sg (v := (a128_ r73 vq78_2 vq78_3)) (vl := (l128 r73 vq78_2 vq78_3)) (arr' := (l128 r73 vq78_2 vq78_3)) rfl sz128 rfl rfl (onesOf (Oc rfl (Oc rfl (Oc (RS.one hq78_2) (Oc (Ow hq78_3) Oz))))) rfl rfl rfl) rfl ?_ ?_)
 rintro _ _ _ - ⟨rfl, rfl⟩
 refine ⟨(Sl rfl), ?_⟩
 refine Ti (Qb (Qa (Qb (WQ.f3 ?_))))
 obtain rfl := oi h
 exact Tj ⟨g71, g61, vq78_2, vq78_3, cq78_3, hle76, rfl, (hρ 0), rfl, rfl, hq78_2, hq78_3⟩
 exact Tz
 exact Tz
 exact Tz
 exact Tz
 exact Tz
 obtain ⟨x22, x24, x25, x26, x27⟩ := j28
 rintro ρ28 M28 H28 ⟨g21, g23, vx26, vx27, cx27, hle28, rfl, hs28_0, hs28_7, hs28_8, hx26, hx27⟩
 refine Sr (Pm (pt g0 0) hs28_0 rfl (Pu (a50_ x22) (La (cs := (l50 x22)) 1 ag50 sz50 hs28_7 rfl rfl) rfl (Pu (pt g0 0) (Nk rfl) rfl (Pu (pt g0 1) (Fa fo57_1 rfl rfl) rfl (We (Sg (v := (a50_ x22)) (vl := (l50 x22)) (arr' := [v0_0, (Iv x22.At), (Iv x22.Code), (Sv x22.Op), (Iv x22.Where)]) rfl sz50 rfl rfl (onb rfl) rfl rfl rfl) rfl ?_)))))
 rintro _ _ _ - ⟨rfl, rfl⟩
 exact Ns (Pu (pt g23 3) (Fa fo128_3 hs28_8 rfl) rfl (Pu vx27 (Lb 2 pl65 rfl rfl rfl) rfl (Pa vx27 rfl rfl (Nt (Cr (Qa (Dr (Qa (Dr (Rf h [[(g0, .cells #[v0_0, (Iv x22.At), (Iv x22.Code), (Sv x22.Op), (Iv x22.Where)] 57 (0, 0))], cx27] rfl (Rs rfl rfl) hle28 ⟨vx27, cx27, rfl, rfl, hx27⟩))))))))))

noncomputable def f_ref05_Cursor_brokers (a0 : T_ref05_Cursor) (a1 : Bool) : Option ((List Int) × Int × Int × ByteArray × Int) :=
  (if (!a1) = true then (some ([], a0.S.At, a0.S.Code, a0.S.Op, a0.S.Where)) else ((f_ref05_Cursor_Row a0 (7 : Int) (64 : Int)).bind fun (r23, r24, r25, r26, r27) => (some (r23, r24, r25, r26, r27))))
def f_ref05_Cursor_brokers_post (a0 : T_ref05_Cursor) (a1 : Bool) (v0_0 : Value) (g0 : Nat) : ((List Int) × Int × Int × ByteArray × Int) → Value → IM → HL → Prop :=
  fun (p_ : ((List Int) × Int × Int × ByteArray × Int)) (v : Value) (M' : IM) (H' : HL) => match p_ with | (r0, r1, r2, r3, r4) => ∃ vz0 cz0, vz0 = v ∧ H' = [[(g0, .cells #[v0_0, (.int .i64 r1), (.int .i64 r2), (.string r3), (.int .i64 r4)] 57 (0, 0))], cz0] ∧ OwnS (Kd.int .i64) M' vz0 r0 cz0
theorem f_ref05_Cursor_brokers_ok (a0 : T_ref05_Cursor) (a1 : Bool) (M : IM) (v0_0 : Value) (g0 : Nat) (h0_0 : RS (Kd.int .u8) M v0_0 a0.B) (res : ((List Int) × Int × Int × ByteArray × Int)) (h : f_ref05_Cursor_brokers a0 a1 = some res) :
    Tri Tryz.prog 91 #[(pt g0 0), (Bv a1)] M [[(g0, .cells (l57 a0 v0_0).toArray 57 (0, 0))]] (f_ref05_Cursor_brokers_post a0 a1 v0_0 g0 res) := by
 unfold f_ref05_Cursor_brokers at h
 refine Te Tryz.func91 rfl rfl ?_
 intro F ρ hρ
 refine Sr (Pa Zs rfl rfl (Nt (Cs (Sr (Pm (Bv a1) (hρ 1) rfl (Pu (Bv (!a1)) (PO.not rfl) rfl (Nt (Cd (b := !a1) rfl (fun hb21 => ?_) (fun hb21 => ?_)))))))))
 have h := ite_t hb21 h
 exact Sr (Pa Zs rfl rfl (Nt (Cr (Tr (WQ.e0 (Qa (Rf h [[(g0, .cells (l57 a0 v0_0).toArray 57 (0, 0))], []] rfl (Rs rfl rfl) lr ⟨Zs, [], rfl, rfl, (OwnS.nil _ _)⟩)))))))
 have h := ite_f hb21 h
 refine Ck (Tc (Sr (Pm (pt g0 0) (hρ 0) rfl ?_)))
 obtain ⟨⟨r23, r24, r25, r26, r27⟩, hr28, h⟩ := bnd h
 refine We (Cb co115 (f_ref05_Cursor_Row_ok a0 (7 : Int) (64 : Int) _ _ _ h0_0 (r23, r24, r25, r26, r27) hr28) (args3 rfl rfl rfl)) rfl ?_
 rintro _ M29 _ hle30 ⟨_, ⟨vq31, cq31, rfl, rfl, hq31⟩, rfl⟩
 exact WL.a2 (Pa vq31 rfl rfl (Nt (Cr (Rf h [[(g0, .cells #[v0_0, (Iv r24), (Iv r25), (Sv r26), (Iv r27)] 57 (0, 0))], cq31] rfl (Rs rfl rfl) hle30 ⟨vq31, cq31, rfl, rfl, hq31⟩))))

noncomputable def f_ref05_num (a0 : Int) (a1 : Bool) (a2 : Int) (a3 : Int) : Option Bool :=
  (if a1 = true then (((if (decide (a2 ≤ a0)) = true then (some (decide (a0 ≤ a3))) else (some false)) : Option Bool).bind fun (x22 : Bool) => (some x22)) else (some (decide (a0 = (0 : Int)))))
def f_ref05_num_post (a0 : Int) (a1 : Bool) (a2 : Int) (a3 : Int) : Bool → Value → IM → HL → Prop :=
  fun (r0 : Bool) (v : Value) (M' : IM) (H' : HL) => (.bool r0) = v ∧ H' = []
theorem f_ref05_num_ok (a0 : Int) (a1 : Bool) (a2 : Int) (a3 : Int) (M : IM) (res : Bool) (h : f_ref05_num a0 a1 a2 a3 = some res) :
    Tri Tryz.prog 99 #[(Iv a0), (Bv a1), (Iv a2), (Iv a3)] M [] (f_ref05_num_post a0 a1 a2 a3 res) := by
 unfold f_ref05_num at h
 refine Te Tryz.func99 rfl rfl ?_
 intro F ρ hρ
 refine Sr (Pa (Bv false) rfl rfl (Nt (Cs (Sr (Pm (Bv a1) (hρ 1) rfl (Nt (Cd (b := a1) rfl (fun hb21 => ?_) (fun hb21 => ?_))))))))
 have h := ite_t hb21 h
 obtain ⟨x22, hj23, h⟩ := bnd h
 refine Jf (fun (x22 : Bool) ρ' M' H' => M.le M' ∧ F = H' ∧ ρ' 8 = (Bv x22)) x22 ?_ ?_
 have h323 := h
 have h := hj23
 refine Cg (Pm (Iv a0) (hρ 0) rfl (Pm (Iv a2) (hρ 2) rfl (Pu (Bv (decide (a2 ≤ a0))) (PO.geq rfl rfl) rfl (Pm (Bv (decide (a2 ≤ a0))) rfl rfl ?_))))
 rcases Bt (decide (a2 ≤ a0)) with hb24 | hb24
 have h := ite_t hb24 h
 refine On 13 rfl rfl hb24 (Pm (Iv a0) (hρ 0) rfl (On 13 rfl rfl hb24 (Pm (Iv a3) (hρ 3) rfl (On 13 rfl rfl hb24 (Pu (Bv (decide (a0 ≤ a3))) (PO.leq rfl rfl) rfl (Pu (Bv (decide (a0 ≤ a3))) (Pt rfl hb24 rfl) rfl (Pa (Bv (decide (a0 ≤ a3))) rfl rfl (Wz ?_))))))))
 obtain rfl := oi h
 exact Tj ⟨lr, rfl, rfl⟩
 have h := ite_f hb24 h
 iterate 3 refine Of 13 rfl rfl hb24 rfl ?_
 refine Pu (Bv false) (Pf rfl hb24 rfl) rfl (Pa (Bv false) rfl rfl (Wz ?_))
 obtain rfl := oi h
 exact Tj ⟨lr, rfl, rfl⟩
 rintro ρ23 M23 H23 ⟨hle23, rfl, hs23_8⟩
 exact Cr (Tr (Rf h [] rfl (Rs rfl hs23_8) hle23 ⟨rfl, rfl⟩))
 have h := ite_f hb21 h
 exact Ck (Tc (Sr (Pm (Iv a0) (hρ 0) rfl (Pu (Bv (decide (a0 = 0))) (PO.eql rfl rfl) rfl (Pa (Bv (decide (a0 = 0))) rfl rfl (Nt (Cr (Rf h [] rfl (Rs rfl rfl) lr ⟨rfl, rfl⟩))))))))


end Go.Proofs.YtjiffdgidodebaaGreatDoor.G
