/- Go functions: what they come to, and that they do. Printed by a program of the session (gen). -/
import Derived.Test.YtjgnbbakamellaaDoorAF
import Derived.Test.YtjgnbbakamellaaDoorA14
import Derived.Test.YtjgnbbakamellaaDoorKConv
import Derived.Test.YtjgnbbakamellaaDoorKEq2
set_option linter.unusedVariables false
set_option linter.unusedSimpArgs false
namespace Go.Proofs.YtjgnbbakamellaaDoor.G
open Go Go.KK

noncomputable def f_ref22_Bytes (a0 : T_api_Request) : Option (List Int) :=
  ((f_ref02_Int a0.Client).bind fun (r22 : (List Int)) => ((f_ref02_Int a0.Serial).bind fun (r27 : (List Int)) => (grd (r22.length + r27.length ≤ 274877906944) ((f_ref02_Int a0.Kind).bind fun (r36 : (List Int)) => (grd ((r22 ++ r27).length + r36.length ≤ 274877906944) ((f_ref22_has a0.Kind (110 : Int)).bind fun (r45 : Bool) => ((f_ref22_str a0.Name r45).bind fun (r50 : (List Int)) => (grd (((r22 ++ r27) ++ r36).length + r50.length ≤ 274877906944) ((f_ref22_has a0.Kind (107 : Int)).bind fun (r59 : Bool) => ((f_ref22_str a0.Key r59).bind fun (r64 : (List Int)) => (grd ((((r22 ++ r27) ++ r36) ++ r50).length + r64.length ≤ 274877906944) ((f_ref22_has a0.Kind (107 : Int)).bind fun (r73 : Bool) => ((f_ref22_str a0.Value r73).bind fun (r78 : (List Int)) => (grd (((((r22 ++ r27) ++ r36) ++ r50) ++ r64).length + r78.length ≤ 274877906944) ((((f_ref22_has a0.Kind (107 : Int)).bind fun (r89 : Bool) => (if r89 = true then ((f_ref02_Flag a0.Flag).bind fun (r95 : (List Int)) => (grd ((((((r22 ++ r27) ++ r36) ++ r50) ++ r64) ++ r78).length + r95.length ≤ 274877906944) (some ((((((r22 ++ r27) ++ r36) ++ r50) ++ r64) ++ r78) ++ r95)))) else (some (((((r22 ++ r27) ++ r36) ++ r50) ++ r64) ++ r78)))) : Option (List Int)).bind fun (x87 : (List Int)) => ((f_ref22_has a0.Kind (113 : Int)).bind fun (r104 : Bool) => ((f_ref22_one a0.Parts r104).bind fun (r109 : (List Int)) => (grd (x87.length + r109.length ≤ 274877906944) ((f_ref22_has a0.Kind (114 : Int)).bind fun (r118 : Bool) => ((f_ref22_one a0.Replicas r118).bind fun (r123 : (List Int)) => (grd ((x87 ++ r109).length + r123.length ≤ 274877906944) ((f_ref22_has a0.Kind (112 : Int)).bind fun (r132 : Bool) => ((f_ref22_one a0.Part r132).bind fun (r137 : (List Int)) => (grd (((x87 ++ r109) ++ r123).length + r137.length ≤ 274877906944) ((f_ref22_has a0.Kind (98 : Int)).bind fun (r146 : Bool) => ((f_ref22_one a0.Broker r146).bind fun (r151 : (List Int)) => (grd ((((x87 ++ r109) ++ r123) ++ r137).length + r151.length ≤ 274877906944) ((f_ref22_has a0.Kind (101 : Int)).bind fun (r160 : Bool) => ((f_ref22_one a0.Epoch r160).bind fun (r165 : (List Int)) => (grd (((((x87 ++ r109) ++ r123) ++ r137) ++ r151).length + r165.length ≤ 274877906944) ((((f_ref22_has a0.Kind (105 : Int)).bind fun (r176 : Bool) => (if r176 = true then ((f_ref02_Row a0.Ids).bind fun (r182 : (List Int)) => (grd ((((((x87 ++ r109) ++ r123) ++ r137) ++ r151) ++ r165).length + r182.length ≤ 274877906944) (some ((((((x87 ++ r109) ++ r123) ++ r137) ++ r151) ++ r165) ++ r182)))) else (some (((((x87 ++ r109) ++ r123) ++ r137) ++ r151) ++ r165)))) : Option (List Int)).bind fun (x174 : (List Int)) => ((f_ref22_has a0.Kind (99 : Int)).bind fun (r191 : Bool) => ((f_ref22_str a0.Rack r191).bind fun (r196 : (List Int)) => (grd (x174.length + r196.length ≤ 274877906944) ((f_ref22_has a0.Kind (119 : Int)).bind fun (r205 : Bool) => (if (!r205) = true then (some (x174 ++ r196)) else ((f_ref02_Int a0.Word.Broker).bind fun (r211 : (List Int)) => (grd ((x174 ++ r196).length + r211.length ≤ 274877906944) ((f_ref02_Int a0.Word.Epoch).bind fun (r220 : (List Int)) => (grd (((x174 ++ r196) ++ r211).length + r220.length ≤ 274877906944) ((f_ref02_Int a0.Word.High).bind fun (r229 : (List Int)) => (grd ((((x174 ++ r196) ++ r211) ++ r220).length + r229.length ≤ 274877906944) ((f_ref02_Flag a0.Word.Fence).bind fun (r238 : (List Int)) => (grd (((((x174 ++ r196) ++ r211) ++ r220) ++ r229).length + r238.length ≤ 274877906944) ((f_ref02_Flag a0.Word.Leave).bind fun (r247 : (List Int)) => (grd ((((((x174 ++ r196) ++ r211) ++ r220) ++ r229) ++ r238).length + r247.length ≤ 274877906944) (some ((((((x174 ++ r196) ++ r211) ++ r220) ++ r229) ++ r238) ++ r247))))))))))))))))))))))))))))))))))))))))))))))))
def f_ref22_Bytes_post (a0 : T_api_Request) (v0_10 : Value) : (List Int) → Value → IM → HL → Prop :=
  fun (r0 : (List Int)) (v : Value) (M' : IM) (H' : HL) => ∃ vz0 cz0, vz0 = v ∧ H' = [cz0] ∧ OwnS (Kd.int .u8) M' vz0 r0 cz0
set_option maxHeartbeats 8000000 in
set_option maxRecDepth 100000 in
theorem f_ref22_Bytes_ok (a0 : T_api_Request) (M : IM) (v0_10 : Value) (h0_10 : RS (Kd.int .i64) M v0_10 a0.Ids) (res : (List Int)) (h : f_ref22_Bytes a0 = some res) :
    Tri Tryd.prog 37 #[(a68_ a0 v0_10)] M [] (f_ref22_Bytes_post a0 v0_10 res) := by
 unfold f_ref22_Bytes at h
 refine Tri.enter (fn := Tryd.f37) Tryd.func37 rfl (Nat.le_of_ble_eq_true rfl) ?_
 intro F ρ hρ
 refine Sr ?_
 refine WL.eff (EO.box (cs := (l68 a0 v0_10).toArray) (congrArg Value.cells (asE (a68_ a0 v0_10) (hρ 0)))) rfl ?_
 rintro _ _ _ - ⟨rfl, g21, rfl, rfl⟩
 refine Pa (.slice none 0 0) rfl rfl ?_
 refine Ns ?_
 refine Pu (.pointer (some ⟨g21, 2, none⟩)) (PO.fieldAddr fo68_2 rfl rfl) rfl ?_
 refine Pu (.int .i64 a0.Kind) (PO.loadB 0 pl3 rfl rfl rfl) rfl ?_
 refine Pa (.int .i64 a0.Kind) rfl rfl ?_
 refine Ns ?_
 refine Pu (.pointer (some ⟨g21, 0, none⟩)) (PO.fieldAddr fo68_0 rfl rfl) rfl ?_
 refine Pu (.int .i64 a0.Client) (PO.loadB 0 pl3 rfl rfl rfl) rfl ?_
 obtain ⟨r22, hr23, h⟩ := bnd h
 refine WL.eff (EO.call0 co74 (f_ref02_Int_ok a0.Client _ r22 hr23) (args1 rfl)) rfl ?_
 rintro _ M24 _ hle25 ⟨_, ⟨vq26, cq26, rfl, rfl, hq26⟩, rfl⟩
 have h0_10 := h0_10.mono hle25
 refine WL.a1 ?_
 refine Pa vq26 rfl rfl ?_
 refine Ns ?_
 refine Pm vq26 rfl rfl ?_
 refine Pu (.pointer (some ⟨g21, 1, none⟩)) (PO.fieldAddr fo68_1 rfl rfl) rfl ?_
 refine Pu (.int .i64 a0.Serial) (PO.loadB 1 pl3 rfl rfl rfl) rfl ?_
 obtain ⟨r27, hr28, h⟩ := bnd h
 refine WL.eff (EO.call0 co74 (f_ref02_Int_ok a0.Serial _ r27 hr28) (args1 rfl)) rfl ?_
 rintro _ M29 _ hle30 ⟨_, ⟨vq31, cq31, rfl, rfl, hq31⟩, rfl⟩
 have hq26 := hq26.mono hle30
 have h0_10 := h0_10.mono hle30
 refine WL.a1 ?_
 obtain ⟨hg35, h⟩ := grd_i h
 refine WL.f1 ?_
 refine WL.eff (EO.append (dd := (Kd.int .u8)) (xs := r22) (ys := r27) Tryd.underlying26 Tryd.underlying26 in5 rfl (appB (by decide) hg35) (by decide) rfl rfl hq26 (hq31.src 1 rfl)) rfl ?_
 rintro v34 _ _ - ⟨rfl, c32, rfl, h33⟩
 refine Pa v34 rfl rfl ?_
 refine Ns ?_
 refine Pm v34 rfl rfl ?_
 refine Pm (.int .i64 a0.Kind) rfl rfl ?_
 obtain ⟨r36, hr37, h⟩ := bnd h
 refine WL.eff (EO.call0 co74 (f_ref02_Int_ok a0.Kind _ r36 hr37) (args1 rfl)) rfl ?_
 rintro _ M38 _ hle39 ⟨_, ⟨vq40, cq40, rfl, rfl, hq40⟩, rfl⟩
 have h33 := h33.mono hle39
 have h0_10 := h0_10.mono hle39
 refine WL.a1 ?_
 obtain ⟨hg44, h⟩ := grd_i h
 refine WL.f1 ?_
 refine WL.eff (EO.append (dd := (Kd.int .u8)) (xs := r22 ++ r27) (ys := r36) Tryd.underlying26 Tryd.underlying26 in5 rfl (appB (by decide) hg44) (by decide) rfl rfl h33 (hq40.src 1 rfl)) rfl ?_
 rintro v43 _ _ - ⟨rfl, c41, rfl, h42⟩
 refine Pa v43 rfl rfl ?_
 refine Nt ?_
 refine WC.seq ?_
 refine WC.draw [0, 0, 2, 0, 8, 30, 63, 127] (.pure 0 (.pure 1 (.pure 2 (.pure 3 (.alt 4 (.alt 5 (.alt 6 (.alt 7 .done .none) .none) .none) .none))))) mixed (by kernel_rfl) ?_
 refine Tp v43 rfl (PO.move rfl) rfl ?_
 refine Tp (.pointer (some ⟨g21, 3, none⟩)) rfl (PO.fieldAddr fo68_3 rfl rfl) rfl ?_
 refine Tp (.string a0.Name) rfl (PO.loadB 3 pl9 rfl rfl rfl) rfl ?_
 refine Tp (.int .i64 a0.Kind) rfl (PO.move rfl) rfl ?_
 obtain ⟨r45, hr46, h⟩ := bnd h
 refine WT.alt rfl (EO.call0 co62 (f_ref22_has_ok a0.Kind (110 : Int) _ r45 hr46) (args2 rfl rfl)) rfl ?_ ?_
 rintro _ M47 _ hle48 ⟨_, ⟨rfl, rfl⟩, rfl⟩
 have h42 := h42.mono hle48
 have h0_10 := h0_10.mono hle48
 refine ⟨(StabL.anc rfl (StabL.st (StabA.of rfl (PO.loadB 3 pl9 rfl rfl rfl) rfl) (StabL.st (StabA.of rfl (PO.fieldAddr fo68_3 rfl rfl) rfl) (StabL.st (StabA.of rfl (PO.move rfl) rfl) trivial)))), ?_⟩
 refine WT.a0 ?_
 obtain ⟨r50, hr51, h⟩ := bnd h
 refine WT.alt rfl (EO.call0 co75 (f_ref22_str_ok a0.Name r45 _ r50 hr51) (args2 rfl rfl)) rfl ?_ ?_
 rintro _ M52 _ hle53 ⟨_, ⟨vq54, cq54, rfl, rfl, hq54⟩, rfl⟩
 have h42 := h42.mono hle53
 have h0_10 := h0_10.mono hle53
 refine ⟨(StabL.anc rfl (StabL.anc rfl (StabL.anc rfl (StabL.st (StabA.of rfl (PO.move rfl) rfl) trivial)))), ?_⟩
 refine WT.a1 ?_
 obtain ⟨hg58, h⟩ := grd_i h
 refine WT.f1 ?_
 refine WT.alt rfl (EO.append (dd := (Kd.int .u8)) (xs := (r22 ++ r27) ++ r36) (ys := r50) Tryd.underlying26 Tryd.underlying26 in5 rfl (appB (by decide) hg58) (by decide) rfl rfl h42 (hq54.src 1 rfl)) rfl ?_ ?_
 rintro v57 _ _ - ⟨rfl, c55, rfl, h56⟩
 refine ⟨(StabL.anc rfl (StabL.anc rfl (StabL.anc rfl (StabL.anc rfl trivial)))), ?_⟩
 refine WT.alt rfl ((PO.assign rfl).eo) rfl ?_ ?_
 rintro _ _ _ - ⟨rfl, rfl, rfl⟩
 refine ⟨(StabL.anc rfl (StabL.anc rfl (StabL.anc rfl (StabL.anc rfl trivial)))), ?_⟩
 refine WT.fin ?_
 refine WQ.thenC ?_
 refine WC.seq ?_
 refine WC.draw [0, 0, 2, 0, 8, 30, 63, 127] (.pure 0 (.pure 1 (.pure 2 (.pure 3 (.alt 4 (.alt 5 (.alt 6 (.alt 7 .done .none) .none) .none) .none))))) mixed (by kernel_rfl) ?_
 refine Tp v57 rfl (PO.move rfl) rfl ?_
 refine Tp (.pointer (some ⟨g21, 4, none⟩)) rfl (PO.fieldAddr fo68_4 rfl rfl) rfl ?_
 refine Tp (.string a0.Key) rfl (PO.loadB 4 pl9 rfl rfl rfl) rfl ?_
 refine Tp (.int .i64 a0.Kind) rfl (PO.move rfl) rfl ?_
 obtain ⟨r59, hr60, h⟩ := bnd h
 refine WT.alt rfl (EO.call0 co62 (f_ref22_has_ok a0.Kind (107 : Int) _ r59 hr60) (args2 rfl rfl)) rfl ?_ ?_
 rintro _ M61 _ hle62 ⟨_, ⟨rfl, rfl⟩, rfl⟩
 have h56 := h56.mono hle62
 have h0_10 := h0_10.mono hle62
 refine ⟨(StabL.anc rfl (StabL.st (StabA.of rfl (PO.loadB 4 pl9 rfl rfl rfl) rfl) (StabL.st (StabA.of rfl (PO.fieldAddr fo68_4 rfl rfl) rfl) (StabL.st (StabA.of rfl (PO.move rfl) rfl) trivial)))), ?_⟩
 refine WT.a0 ?_
 obtain ⟨r64, hr65, h⟩ := bnd h
 refine WT.alt rfl (EO.call0 co75 (f_ref22_str_ok a0.Key r59 _ r64 hr65) (args2 rfl rfl)) rfl ?_ ?_
 rintro _ M66 _ hle67 ⟨_, ⟨vq68, cq68, rfl, rfl, hq68⟩, rfl⟩
 have h56 := h56.mono hle67
 have h0_10 := h0_10.mono hle67
 refine ⟨(StabL.anc rfl (StabL.anc rfl (StabL.anc rfl (StabL.st (StabA.of rfl (PO.move rfl) rfl) trivial)))), ?_⟩
 refine WT.a1 ?_
 obtain ⟨hg72, h⟩ := grd_i h
 refine WT.f1 ?_
 refine WT.alt rfl (EO.append (dd := (Kd.int .u8)) (xs := ((r22 ++ r27) ++ r36) ++ r50) (ys := r64) Tryd.underlying26 Tryd.underlying26 in5 rfl (appB (by decide) hg72) (by decide) rfl rfl h56 (hq68.src 1 rfl)) rfl ?_ ?_
 rintro v71 _ _ - ⟨rfl, c69, rfl, h70⟩
 refine ⟨(StabL.anc rfl (StabL.anc rfl (StabL.anc rfl (StabL.anc rfl trivial)))), ?_⟩
 refine WT.alt rfl ((PO.assign rfl).eo) rfl ?_ ?_
 rintro _ _ _ - ⟨rfl, rfl, rfl⟩
 refine ⟨(StabL.anc rfl (StabL.anc rfl (StabL.anc rfl (StabL.anc rfl trivial)))), ?_⟩
 refine WT.fin ?_
 refine WQ.thenC ?_
 refine WC.seq ?_
 refine WC.draw [0, 0, 2, 0, 8, 30, 63, 127] (.pure 0 (.pure 1 (.pure 2 (.pure 3 (.alt 4 (.alt 5 (.alt 6 (.alt 7 .done .none) .none) .none) .none))))) mixed (by kernel_rfl) ?_
 refine Tp v71 rfl (PO.move rfl) rfl ?_
 refine Tp (.pointer (some ⟨g21, 5, none⟩)) rfl (PO.fieldAddr fo68_5 rfl rfl) rfl ?_
 refine Tp (.string a0.Value) rfl (PO.loadB 5 pl9 rfl rfl rfl) rfl ?_
 refine Tp (.int .i64 a0.Kind) rfl (PO.move rfl) rfl ?_
 obtain ⟨r73, hr74, h⟩ := bnd h
 refine WT.alt rfl (EO.call0 co62 (f_ref22_has_ok a0.Kind (107 : Int) _ r73 hr74) (args2 rfl rfl)) rfl ?_ ?_
 rintro _ M75 _ hle76 ⟨_, ⟨rfl, rfl⟩, rfl⟩
 have h70 := h70.mono hle76
 have h0_10 := h0_10.mono hle76
 refine ⟨(StabL.anc rfl (StabL.st (StabA.of rfl (PO.loadB 5 pl9 rfl rfl rfl) rfl) (StabL.st (StabA.of rfl (PO.fieldAddr fo68_5 rfl rfl) rfl) (StabL.st (StabA.of rfl (PO.move rfl) rfl) trivial)))), ?_⟩
 refine WT.a0 ?_
 obtain ⟨r78, hr79, h⟩ := bnd h
 refine WT.alt rfl (EO.call0 co75 (f_ref22_str_ok a0.Value r73 _ r78 hr79) (args2 rfl rfl)) rfl ?_ ?_
 rintro _ M80 _ hle81 ⟨_, ⟨vq82, cq82, rfl, rfl, hq82⟩, rfl⟩
 have h70 := h70.mono hle81
 have h0_10 := h0_10.mono hle81
 refine ⟨(StabL.anc rfl (StabL.anc rfl (StabL.anc rfl (StabL.st (StabA.of rfl (PO.move rfl) rfl) trivial)))), ?_⟩
 refine WT.a1 ?_
 obtain ⟨hg86, h⟩ := grd_i h
 refine WT.f1 ?_
 refine WT.alt rfl (EO.append (dd := (Kd.int .u8)) (xs := (((r22 ++ r27) ++ r36) ++ r50) ++ r64) (ys := r78) Tryd.underlying26 Tryd.underlying26 in5 rfl (appB (by decide) hg86) (by decide) rfl rfl h70 (hq82.src 1 rfl)) rfl ?_ ?_
 rintro v85 _ _ - ⟨rfl, c83, rfl, h84⟩
 refine ⟨(StabL.anc rfl (StabL.anc rfl (StabL.anc rfl (StabL.anc rfl trivial)))), ?_⟩
 refine WT.alt rfl ((PO.assign rfl).eo) rfl ?_ ?_
 rintro _ _ _ - ⟨rfl, rfl, rfl⟩
 refine ⟨(StabL.anc rfl (StabL.anc rfl (StabL.anc rfl (StabL.anc rfl trivial)))), ?_⟩
 refine WT.fin ?_
 refine WQ.thenC ?_
 obtain ⟨x87, hj88, h⟩ := bnd h
 refine WC.joinF (fun (x87 : (List Int)) ρ' M' H' => ∃ vx87 cx87, M80.le M' ∧ [(g21, .cells (l68 a0 v0_10).toArray 68 (0, 0))] :: cx87 :: F = H' ∧ ρ' 1 = (.pointer (some ⟨g21, 0, none⟩)) ∧ ρ' 3 = (.int .i64 a0.Kind) ∧ ρ' 4 = vx87 ∧ OwnS (Kd.int .u8) M' vx87 x87 cx87) x87 ?_ ?_
 have h388 := h
 have h := hj88
 refine Sr ?_
 refine Pm (.int .i64 a0.Kind) rfl rfl ?_
 obtain ⟨r89, hr90, h⟩ := bnd h
 refine WL.eff (EO.call0 co62 (f_ref22_has_ok a0.Kind (107 : Int) _ r89 hr90) (args2 rfl rfl)) rfl ?_
 rintro _ M91 _ hle92 ⟨_, ⟨rfl, rfl⟩, rfl⟩
 have h84 := h84.mono hle92
 have h0_10 := h0_10.mono hle92
 refine WL.a0 ?_
 refine Nt ?_
 refine WC.cond (b := r89) rfl (fun hb94 => ?_) (fun hb94 => ?_)
 have h := ite_t hb94 h
 refine WC.region ?_
 refine Pm v85 rfl rfl ?_
 refine Pu (.pointer (some ⟨g21, 6, none⟩)) (PO.fieldAddr fo68_6 rfl rfl) rfl ?_
 refine Pu (.bool a0.Flag) (PO.loadB 6 pl4 rfl rfl rfl) rfl ?_
 obtain ⟨r95, hr96, h⟩ := bnd h
 refine WL.eff (EO.call0 co76 (f_ref02_Flag_ok a0.Flag _ r95 hr96) (args1 rfl)) rfl ?_
 rintro _ M97 _ hle98 ⟨_, ⟨vq99, cq99, rfl, rfl, hq99⟩, rfl⟩
 have h84 := h84.mono hle98
 have h0_10 := h0_10.mono hle98
 refine WL.a1 ?_
 obtain ⟨hg103, h⟩ := grd_i h
 refine WL.f1 ?_
 refine WL.eff (EO.append (dd := (Kd.int .u8)) (xs := ((((r22 ++ r27) ++ r36) ++ r50) ++ r64) ++ r78) (ys := r95) Tryd.underlying26 Tryd.underlying26 in5 rfl (appB (by decide) hg103) (by decide) rfl rfl h84 (hq99.src 1 rfl)) rfl ?_
 rintro v102 _ _ - ⟨rfl, c100, rfl, h101⟩
 refine Pa v102 rfl rfl ?_
 refine WL.nil ?_
 refine WQ.f1 ?_
 refine WQ.drop ?_
 refine WQ.f1 ?_
 refine WQ.drop ?_
 refine WQ.f1 ?_
 refine WQ.drop ?_
 refine WQ.f1 ?_
 refine WQ.drop ?_
 refine WQ.f1 ?_
 refine WQ.drop ?_
 refine WQ.f1 ?_
 refine WQ.drop ?_
 refine WQ.f1 ?_
 obtain rfl := Option.some.inj h
 refine WQ.thenJ ?_
 exact ⟨v102, c100, (hle92.trans hle98), rfl, rfl, rfl, rfl, h101⟩
 have h := ite_f hb94 h
 refine WC.skip ?_
 refine WQ.f1 ?_
 refine WQ.drop ?_
 refine WQ.f1 ?_
 refine WQ.drop ?_
 refine WQ.f1 ?_
 refine WQ.drop ?_
 refine WQ.f1 ?_
 refine WQ.drop ?_
 refine WQ.f1 ?_
 refine WQ.drop ?_
 refine WQ.f1 ?_
 obtain rfl := Option.some.inj h
 refine WQ.thenJ ?_
 exact ⟨v85, c83, hle92, rfl, rfl, rfl, rfl, h84⟩
 rintro ρ88 M88 H88 ⟨vx87, cx87, hle88, rfl, hs88_1, hs88_3, hs88_4, hx87⟩
 have h0_10 := h0_10.mono hle88
 refine WC.seq ?_
 refine WC.draw [0, 0, 2, 0, 8, 30, 63, 127] (.pure 0 (.pure 1 (.pure 2 (.pure 3 (.alt 4 (.alt 5 (.alt 6 (.alt 7 .done .none) .none) .none) .none))))) mixed (by kernel_rfl) ?_
 refine Tp vx87 rfl (PO.move hs88_4) rfl ?_
 refine Tp (.pointer (some ⟨g21, 7, none⟩)) rfl (PO.fieldAddr fo68_7 hs88_1 rfl) rfl ?_
 refine Tp (.int .i64 a0.Parts) rfl (PO.loadB 0 pl3 rfl rfl rfl) rfl ?_
 refine Tp (.int .i64 a0.Kind) rfl (PO.move hs88_3) rfl ?_
 obtain ⟨r104, hr105, h⟩ := bnd h
 refine WT.alt rfl (EO.call0 co62 (f_ref22_has_ok a0.Kind (113 : Int) _ r104 hr105) (args2 rfl rfl)) rfl ?_ ?_
 rintro _ M106 _ hle107 ⟨_, ⟨rfl, rfl⟩, rfl⟩
 have hx87 := hx87.mono hle107
 have h0_10 := h0_10.mono hle107
 refine ⟨(StabL.anc rfl (StabL.st (StabA.of rfl (PO.loadB 0 pl3 rfl rfl rfl) rfl) (StabL.st (StabA.of rfl (PO.fieldAddr fo68_7 hs88_1 rfl) rfl) (StabL.st (StabA.of rfl (PO.move hs88_4) rfl) trivial)))), ?_⟩
 refine WT.a0 ?_
 obtain ⟨r109, hr110, h⟩ := bnd h
 refine WT.alt rfl (EO.call0 co77 (f_ref22_one_ok a0.Parts r104 _ r109 hr110) (args2 rfl rfl)) rfl ?_ ?_
 rintro _ M111 _ hle112 ⟨_, ⟨vq113, cq113, rfl, rfl, hq113⟩, rfl⟩
 have hx87 := hx87.mono hle112
 have h0_10 := h0_10.mono hle112
 refine ⟨(StabL.anc rfl (StabL.anc rfl (StabL.anc rfl (StabL.st (StabA.of rfl (PO.move hs88_4) rfl) trivial)))), ?_⟩
 refine WT.a1 ?_
 obtain ⟨hg117, h⟩ := grd_i h
 refine WT.f2 ?_
 refine WT.alt rfl (EO.append (dd := (Kd.int .u8)) (xs := x87) (ys := r109) Tryd.underlying26 Tryd.underlying26 in5 rfl (appB (by decide) hg117) (by decide) rfl rfl hx87 (hq113.src 1 rfl)) rfl ?_ ?_
 rintro v116 _ _ - ⟨rfl, c114, rfl, h115⟩
 refine ⟨(StabL.anc rfl (StabL.anc rfl (StabL.anc rfl (StabL.anc rfl trivial)))), ?_⟩
 refine WT.alt rfl ((PO.assign rfl).eo) rfl ?_ ?_
 rintro _ _ _ - ⟨rfl, rfl, rfl⟩
 refine ⟨(StabL.anc rfl (StabL.anc rfl (StabL.anc rfl (StabL.anc rfl trivial)))), ?_⟩
 refine WT.fin ?_
 refine WQ.thenC ?_
 refine WC.seq ?_
 refine WC.draw [0, 0, 2, 0, 8, 30, 63, 127] (.pure 0 (.pure 1 (.pure 2 (.pure 3 (.alt 4 (.alt 5 (.alt 6 (.alt 7 .done .none) .none) .none) .none))))) mixed (by kernel_rfl) ?_
 refine Tp v116 rfl (PO.move rfl) rfl ?_
 refine Tp (.pointer (some ⟨g21, 8, none⟩)) rfl (PO.fieldAddr fo68_8 hs88_1 rfl) rfl ?_
 refine Tp (.int .i64 a0.Replicas) rfl (PO.loadB 2 pl3 rfl rfl rfl) rfl ?_
 refine Tp (.int .i64 a0.Kind) rfl (PO.move hs88_3) rfl ?_
 obtain ⟨r118, hr119, h⟩ := bnd h
 refine WT.alt rfl (EO.call0 co62 (f_ref22_has_ok a0.Kind (114 : Int) _ r118 hr119) (args2 rfl rfl)) rfl ?_ ?_
 rintro _ M120 _ hle121 ⟨_, ⟨rfl, rfl⟩, rfl⟩
 have h115 := h115.mono hle121
 have h0_10 := h0_10.mono hle121
 refine ⟨(StabL.anc rfl (StabL.st (StabA.of rfl (PO.loadB 2 pl3 rfl rfl rfl) rfl) (StabL.st (StabA.of rfl (PO.fieldAddr fo68_8 hs88_1 rfl) rfl) (StabL.st (StabA.of rfl (PO.move rfl) rfl) trivial)))), ?_⟩
 refine WT.a0 ?_
 obtain ⟨r123, hr124, h⟩ := bnd h
 refine WT.alt rfl (EO.call0 co77 (f_ref22_one_ok a0.Replicas r118 _ r123 hr124) (args2 rfl rfl)) rfl ?_ ?_
 rintro _ M125 _ hle126 ⟨_, ⟨vq127, cq127, rfl, rfl, hq127⟩, rfl⟩
 have h115 := h115.mono hle126
 have h0_10 := h0_10.mono hle126
 refine ⟨(StabL.anc rfl (StabL.anc rfl (StabL.anc rfl (StabL.st (StabA.of rfl (PO.move rfl) rfl) trivial)))), ?_⟩
 refine WT.a1 ?_
 obtain ⟨hg131, h⟩ := grd_i h
 refine WT.f1 ?_
 refine WT.alt rfl (EO.append (dd := (Kd.int .u8)) (xs := x87 ++ r109) (ys := r123) Tryd.underlying26 Tryd.underlying26 in5 rfl (appB (by decide) hg131) (by decide) rfl rfl h115 (hq127.src 1 rfl)) rfl ?_ ?_
 rintro v130 _ _ - ⟨rfl, c128, rfl, h129⟩
 refine ⟨(StabL.anc rfl (StabL.anc rfl (StabL.anc rfl (StabL.anc rfl trivial)))), ?_⟩
 refine WT.alt rfl ((PO.assign rfl).eo) rfl ?_ ?_
 rintro _ _ _ - ⟨rfl, rfl, rfl⟩
 refine ⟨(StabL.anc rfl (StabL.anc rfl (StabL.anc rfl (StabL.anc rfl trivial)))), ?_⟩
 refine WT.fin ?_
 refine WQ.thenC ?_
 refine WC.seq ?_
 refine WC.draw [0, 0, 2, 0, 8, 30, 63, 127] (.pure 0 (.pure 1 (.pure 2 (.pure 3 (.alt 4 (.alt 5 (.alt 6 (.alt 7 .done .none) .none) .none) .none))))) mixed (by kernel_rfl) ?_
 refine Tp v130 rfl (PO.move rfl) rfl ?_
 refine Tp (.pointer (some ⟨g21, 9, none⟩)) rfl (PO.fieldAddr fo68_9 hs88_1 rfl) rfl ?_
 refine Tp (.int .i64 a0.Part) rfl (PO.loadB 3 pl3 rfl rfl rfl) rfl ?_
 refine Tp (.int .i64 a0.Kind) rfl (PO.move hs88_3) rfl ?_
 obtain ⟨r132, hr133, h⟩ := bnd h
 refine WT.alt rfl (EO.call0 co62 (f_ref22_has_ok a0.Kind (112 : Int) _ r132 hr133) (args2 rfl rfl)) rfl ?_ ?_
 rintro _ M134 _ hle135 ⟨_, ⟨rfl, rfl⟩, rfl⟩
 have h129 := h129.mono hle135
 have h0_10 := h0_10.mono hle135
 refine ⟨(StabL.anc rfl (StabL.st (StabA.of rfl (PO.loadB 3 pl3 rfl rfl rfl) rfl) (StabL.st (StabA.of rfl (PO.fieldAddr fo68_9 hs88_1 rfl) rfl) (StabL.st (StabA.of rfl (PO.move rfl) rfl) trivial)))), ?_⟩
 refine WT.a0 ?_
 obtain ⟨r137, hr138, h⟩ := bnd h
 refine WT.alt rfl (EO.call0 co77 (f_ref22_one_ok a0.Part r132 _ r137 hr138) (args2 rfl rfl)) rfl ?_ ?_
 rintro _ M139 _ hle140 ⟨_, ⟨vq141, cq141, rfl, rfl, hq141⟩, rfl⟩
 have h129 := h129.mono hle140
 have h0_10 := h0_10.mono hle140
 refine ⟨(StabL.anc rfl (StabL.anc rfl (StabL.anc rfl (StabL.st (StabA.of rfl (PO.move rfl) rfl) trivial)))), ?_⟩
 refine WT.a1 ?_
 obtain ⟨hg145, h⟩ := grd_i h
 refine WT.f1 ?_
 refine WT.alt rfl (EO.append (dd := (Kd.int .u8)) (xs := (x87 ++ r109) ++ r123) (ys := r137) Tryd.underlying26 Tryd.underlying26 in5 rfl (appB (by decide) hg145) (by decide) rfl rfl h129 (hq141.src 1 rfl)) rfl ?_ ?_
 rintro v144 _ _ - ⟨rfl, c142, rfl, h143⟩
 refine ⟨(StabL.anc rfl (StabL.anc rfl (StabL.anc rfl (StabL.anc rfl trivial)))), ?_⟩
 refine WT.alt rfl ((PO.assign rfl).eo) rfl ?_ ?_
 rintro _ _ _ - ⟨rfl, rfl, rfl⟩
 refine ⟨(StabL.anc rfl (StabL.anc rfl (StabL.anc rfl (StabL.anc rfl trivial)))), ?_⟩
 refine WT.fin ?_
 refine WQ.thenC ?_
 refine WC.seq ?_
 refine WC.draw [0, 0, 2, 0, 8, 30, 63, 127] (.pure 0 (.pure 1 (.pure 2 (.pure 3 (.alt 4 (.alt 5 (.alt 6 (.alt 7 .done .none) .none) .none) .none))))) mixed (by kernel_rfl) ?_
 refine Tp v144 rfl (PO.move rfl) rfl ?_
 refine Tp (.pointer (some ⟨g21, 11, none⟩)) rfl (PO.fieldAddr fo68_11 hs88_1 rfl) rfl ?_
 refine Tp (.int .i64 a0.Broker) rfl (PO.loadB 4 pl3 rfl rfl rfl) rfl ?_
 refine Tp (.int .i64 a0.Kind) rfl (PO.move hs88_3) rfl ?_
 obtain ⟨r146, hr147, h⟩ := bnd h
 refine WT.alt rfl (EO.call0 co62 (f_ref22_has_ok a0.Kind (98 : Int) _ r146 hr147) (args2 rfl rfl)) rfl ?_ ?_
 rintro _ M148 _ hle149 ⟨_, ⟨rfl, rfl⟩, rfl⟩
 have h143 := h143.mono hle149
 have h0_10 := h0_10.mono hle149
 refine ⟨(StabL.anc rfl (StabL.st (StabA.of rfl (PO.loadB 4 pl3 rfl rfl rfl) rfl) (StabL.st (StabA.of rfl (PO.fieldAddr fo68_11 hs88_1 rfl) rfl) (StabL.st (StabA.of rfl (PO.move rfl) rfl) trivial)))), ?_⟩
 refine WT.a0 ?_
 obtain ⟨r151, hr152, h⟩ := bnd h
 refine WT.alt rfl (EO.call0 co77 (f_ref22_one_ok a0.Broker r146 _ r151 hr152) (args2 rfl rfl)) rfl ?_ ?_
 rintro _ M153 _ hle154 ⟨_, ⟨vq155, cq155, rfl, rfl, hq155⟩, rfl⟩
 have h143 := h143.mono hle154
 have h0_10 := h0_10.mono hle154
 refine ⟨(StabL.anc rfl (StabL.anc rfl (StabL.anc rfl (StabL.st (StabA.of rfl (PO.move rfl) rfl) trivial)))), ?_⟩
 refine WT.a1 ?_
 obtain ⟨hg159, h⟩ := grd_i h
 refine WT.f1 ?_
 refine WT.alt rfl (EO.append (dd := (Kd.int .u8)) (xs := ((x87 ++ r109) ++ r123) ++ r137) (ys := r151) Tryd.underlying26 Tryd.underlying26 in5 rfl (appB (by decide) hg159) (by decide) rfl rfl h143 (hq155.src 1 rfl)) rfl ?_ ?_
 rintro v158 _ _ - ⟨rfl, c156, rfl, h157⟩
 refine ⟨(StabL.anc rfl (StabL.anc rfl (StabL.anc rfl (StabL.anc rfl trivial)))), ?_⟩
 refine WT.alt rfl ((PO.assign rfl).eo) rfl ?_ ?_
 rintro _ _ _ - ⟨rfl, rfl, rfl⟩
 refine ⟨(StabL.anc rfl (StabL.anc rfl (StabL.anc rfl (StabL.anc rfl trivial)))), ?_⟩
 refine WT.fin ?_
 refine WQ.thenC ?_
 refine WC.seq ?_
 refine WC.draw [0, 0, 2, 0, 8, 30, 63, 127] (.pure 0 (.pure 1 (.pure 2 (.pure 3 (.alt 4 (.alt 5 (.alt 6 (.alt 7 .done .none) .none) .none) .none))))) mixed (by kernel_rfl) ?_
 refine Tp v158 rfl (PO.move rfl) rfl ?_
 refine Tp (.pointer (some ⟨g21, 12, none⟩)) rfl (PO.fieldAddr fo68_12 hs88_1 rfl) rfl ?_
 refine Tp (.int .i64 a0.Epoch) rfl (PO.loadB 5 pl3 rfl rfl rfl) rfl ?_
 refine Tp (.int .i64 a0.Kind) rfl (PO.move hs88_3) rfl ?_
 obtain ⟨r160, hr161, h⟩ := bnd h
 refine WT.alt rfl (EO.call0 co62 (f_ref22_has_ok a0.Kind (101 : Int) _ r160 hr161) (args2 rfl rfl)) rfl ?_ ?_
 rintro _ M162 _ hle163 ⟨_, ⟨rfl, rfl⟩, rfl⟩
 have h157 := h157.mono hle163
 have h0_10 := h0_10.mono hle163
 refine ⟨(StabL.anc rfl (StabL.st (StabA.of rfl (PO.loadB 5 pl3 rfl rfl rfl) rfl) (StabL.st (StabA.of rfl (PO.fieldAddr fo68_12 hs88_1 rfl) rfl) (StabL.st (StabA.of rfl (PO.move rfl) rfl) trivial)))), ?_⟩
 refine WT.a0 ?_
 obtain ⟨r165, hr166, h⟩ := bnd h
 refine WT.alt rfl (EO.call0 co77 (f_ref22_one_ok a0.Epoch r160 _ r165 hr166) (args2 rfl rfl)) rfl ?_ ?_
 rintro _ M167 _ hle168 ⟨_, ⟨vq169, cq169, rfl, rfl, hq169⟩, rfl⟩
 have h157 := h157.mono hle168
 have h0_10 := h0_10.mono hle168
 refine ⟨(StabL.anc rfl (StabL.anc rfl (StabL.anc rfl (StabL.st (StabA.of rfl (PO.move rfl) rfl) trivial)))), ?_⟩
 refine WT.a1 ?_
 obtain ⟨hg173, h⟩ := grd_i h
 refine WT.f1 ?_
 refine WT.alt rfl (EO.append (dd := (Kd.int .u8)) (xs := (((x87 ++ r109) ++ r123) ++ r137) ++ r151) (ys := r165) Tryd.underlying26 Tryd.underlying26 in5 rfl (appB (by decide) hg173) (by decide) rfl rfl h157 (hq169.src 1 rfl)) rfl ?_ ?_
 rintro v172 _ _ - ⟨rfl, c170, rfl, h171⟩
 refine ⟨(StabL.anc rfl (StabL.anc rfl (StabL.anc rfl (StabL.anc rfl trivial)))), ?_⟩
 refine WT.alt rfl ((PO.assign rfl).eo) rfl ?_ ?_
 rintro _ _ _ - ⟨rfl, rfl, rfl⟩
 refine ⟨(StabL.anc rfl (StabL.anc rfl (StabL.anc rfl (StabL.anc rfl trivial)))), ?_⟩
 refine WT.fin ?_
 refine WQ.thenC ?_
 obtain ⟨x174, hj175, h⟩ := bnd h
 refine WC.joinF (fun (x174 : (List Int)) ρ' M' H' => ∃ vx174 cx174, M167.le M' ∧ [(g21, .cells (l68 a0 v0_10).toArray 68 (0, 0))] :: cx174 :: F = H' ∧ ρ' 1 = (.pointer (some ⟨g21, 0, none⟩)) ∧ ρ' 3 = (.int .i64 a0.Kind) ∧ ρ' 4 = vx174 ∧ OwnS (Kd.int .u8) M' vx174 x174 cx174) x174 ?_ ?_
 have h3175 := h
 have h := hj175
 refine Sr ?_
 refine Pm (.int .i64 a0.Kind) hs88_3 rfl ?_
 obtain ⟨r176, hr177, h⟩ := bnd h
 refine WL.eff (EO.call0 co62 (f_ref22_has_ok a0.Kind (105 : Int) _ r176 hr177) (args2 rfl rfl)) rfl ?_
 rintro _ M178 _ hle179 ⟨_, ⟨rfl, rfl⟩, rfl⟩
 have h171 := h171.mono hle179
 have h0_10 := h0_10.mono hle179
 refine WL.a0 ?_
 refine Nt ?_
 refine WC.cond (b := r176) rfl (fun hb181 => ?_) (fun hb181 => ?_)
 have h := ite_t hb181 h
 refine WC.region ?_
 refine Pm v172 rfl rfl ?_
 refine Pu (.pointer (some ⟨g21, 10, none⟩)) (PO.fieldAddr fo68_10 hs88_1 rfl) rfl ?_
 refine Pu v0_10 (PO.loadB 6 pl64 rfl rfl rfl) rfl ?_
 obtain ⟨r182, hr183, h⟩ := bnd h
 refine WL.eff (EO.call0 co78 (f_ref02_Row_ok a0.Ids _ _ h0_10 r182 hr183) (args1 rfl)) rfl ?_
 rintro _ M184 _ hle185 ⟨_, ⟨vq186, cq186, rfl, rfl, hq186⟩, rfl⟩
 have h171 := h171.mono hle185
 have h0_10 := h0_10.mono hle185
 refine WL.a1 ?_
 obtain ⟨hg190, h⟩ := grd_i h
 refine WL.f1 ?_
 refine WL.eff (EO.append (dd := (Kd.int .u8)) (xs := ((((x87 ++ r109) ++ r123) ++ r137) ++ r151) ++ r165) (ys := r182) Tryd.underlying26 Tryd.underlying26 in5 rfl (appB (by decide) hg190) (by decide) rfl rfl h171 (hq186.src 1 rfl)) rfl ?_
 rintro v189 _ _ - ⟨rfl, c187, rfl, h188⟩
 refine Pa v189 rfl rfl ?_
 refine WL.nil ?_
 refine WQ.f1 ?_
 refine WQ.drop ?_
 refine WQ.f1 ?_
 refine WQ.drop ?_
 refine WQ.f1 ?_
 refine WQ.drop ?_
 refine WQ.f1 ?_
 refine WQ.drop ?_
 refine WQ.f1 ?_
 refine WQ.drop ?_
 refine WQ.f1 ?_
 refine WQ.drop ?_
 refine WQ.f1 ?_
 obtain rfl := Option.some.inj h
 refine WQ.thenJ ?_
 exact ⟨v189, c187, (hle179.trans hle185), rfl, hs88_1, hs88_3, rfl, h188⟩
 have h := ite_f hb181 h
 refine WC.skip ?_
 refine WQ.f1 ?_
 refine WQ.drop ?_
 refine WQ.f1 ?_
 refine WQ.drop ?_
 refine WQ.f1 ?_
 refine WQ.drop ?_
 refine WQ.f1 ?_
 refine WQ.drop ?_
 refine WQ.f1 ?_
 refine WQ.drop ?_
 refine WQ.f1 ?_
 obtain rfl := Option.some.inj h
 refine WQ.thenJ ?_
 exact ⟨v172, c170, hle179, rfl, hs88_1, hs88_3, rfl, h171⟩
 rintro ρ175 M175 H175 ⟨vx174, cx174, hle175, rfl, hs175_1, hs175_3, hs175_4, hx174⟩
 have h0_10 := h0_10.mono hle175
 refine WC.seq ?_
 refine WC.draw [0, 0, 2, 0, 8, 30, 63, 127] (.pure 0 (.pure 1 (.pure 2 (.pure 3 (.alt 4 (.alt 5 (.alt 6 (.alt 7 .done .none) .none) .none) .none))))) mixed (by kernel_rfl) ?_
 refine Tp vx174 rfl (PO.move hs175_4) rfl ?_
 refine Tp (.pointer (some ⟨g21, 13, none⟩)) rfl (PO.fieldAddr fo68_13 hs175_1 rfl) rfl ?_
 refine Tp (.string a0.Rack) rfl (PO.loadB 0 pl9 rfl rfl rfl) rfl ?_
 refine Tp (.int .i64 a0.Kind) rfl (PO.move hs175_3) rfl ?_
 obtain ⟨r191, hr192, h⟩ := bnd h
 refine WT.alt rfl (EO.call0 co62 (f_ref22_has_ok a0.Kind (99 : Int) _ r191 hr192) (args2 rfl rfl)) rfl ?_ ?_
 rintro _ M193 _ hle194 ⟨_, ⟨rfl, rfl⟩, rfl⟩
 have hx174 := hx174.mono hle194
 have h0_10 := h0_10.mono hle194
 refine ⟨(StabL.anc rfl (StabL.st (StabA.of rfl (PO.loadB 0 pl9 rfl rfl rfl) rfl) (StabL.st (StabA.of rfl (PO.fieldAddr fo68_13 hs175_1 rfl) rfl) (StabL.st (StabA.of rfl (PO.move hs175_4) rfl) trivial)))), ?_⟩
 refine WT.a0 ?_
 obtain ⟨r196, hr197, h⟩ := bnd h
 refine WT.alt rfl (EO.call0 co75 (f_ref22_str_ok a0.Rack r191 _ r196 hr197) (args2 rfl rfl)) rfl ?_ ?_
 rintro _ M198 _ hle199 ⟨_, ⟨vq200, cq200, rfl, rfl, hq200⟩, rfl⟩
 have hx174 := hx174.mono hle199
 have h0_10 := h0_10.mono hle199
 refine ⟨(StabL.anc rfl (StabL.anc rfl (StabL.anc rfl (StabL.st (StabA.of rfl (PO.move hs175_4) rfl) trivial)))), ?_⟩
 refine WT.a1 ?_
 obtain ⟨hg204, h⟩ := grd_i h
 refine WT.f2 ?_
 refine WT.alt rfl (EO.append (dd := (Kd.int .u8)) (xs := x174) (ys := r196) Tryd.underlying26 Tryd.underlying26 in5 rfl (appB (by decide) hg204) (by decide) rfl rfl hx174 (hq200.src 1 rfl)) rfl ?_ ?_
 rintro v203 _ _ - ⟨rfl, c201, rfl, h202⟩
 refine ⟨(StabL.anc rfl (StabL.anc rfl (StabL.anc rfl (StabL.anc rfl trivial)))), ?_⟩
 refine WT.alt rfl ((PO.assign rfl).eo) rfl ?_ ?_
 rintro _ _ _ - ⟨rfl, rfl, rfl⟩
 refine ⟨(StabL.anc rfl (StabL.anc rfl (StabL.anc rfl (StabL.anc rfl trivial)))), ?_⟩
 refine WT.fin ?_
 refine WQ.thenC ?_
 refine WC.seq ?_
 refine Sr ?_
 refine Pm (.int .i64 a0.Kind) hs175_3 rfl ?_
 obtain ⟨r205, hr206, h⟩ := bnd h
 refine WL.eff (EO.call0 co62 (f_ref22_has_ok a0.Kind (119 : Int) _ r205 hr206) (args2 rfl rfl)) rfl ?_
 rintro _ M207 _ hle208 ⟨_, ⟨rfl, rfl⟩, rfl⟩
 have h202 := h202.mono hle208
 have h0_10 := h0_10.mono hle208
 refine WL.a0 ?_
 refine Pu (.bool (!r205)) (PO.not rfl) rfl ?_
 refine Nt ?_
 refine WC.cond (b := !r205) rfl (fun hb210 => ?_) (fun hb210 => ?_)
 have h := ite_t hb210 h
 refine Sr ?_
 refine Pm v203 rfl rfl ?_
 refine Pa v203 rfl rfl ?_
 refine Nt ?_
 refine WC.ret ?_
 refine WQ.thenR ?_
 refine WQ.f1 ?_
 refine WQ.drop ?_
 refine WQ.f1 ?_
 refine WQ.drop ?_
 exact WQ.returnsF h [c201] rfl (results1 rfl rfl) (((((((((((((((((((((((hle25.trans hle30).trans hle39).trans hle48).trans hle53).trans hle62).trans hle67).trans hle76).trans hle81).trans hle88).trans hle107).trans hle112).trans hle121).trans hle126).trans hle135).trans hle140).trans hle149).trans hle154).trans hle163).trans hle168).trans hle175).trans hle194).trans hle199).trans hle208) ⟨v203, c201, rfl, rfl, h202⟩
 have h := ite_f hb210 h
 refine WC.skip ?_
 refine WQ.thenC ?_
 refine Sr ?_
 refine Pm v203 rfl rfl ?_
 refine Pu (.pointer (some ⟨g21, 14, none⟩)) (PO.fieldAddr fo68_14 hs175_1 rfl) rfl ?_
 refine Pu (.pointer (some ⟨g21, 14, none⟩)) (PO.fieldAddr fo66_0 rfl rfl) rfl ?_
 refine Pu (.int .i64 a0.Word.Broker) (PO.loadB 2 pl3 rfl rfl rfl) rfl ?_
 obtain ⟨r211, hr212, h⟩ := bnd h
 refine WL.eff (EO.call0 co74 (f_ref02_Int_ok a0.Word.Broker _ r211 hr212) (args1 rfl)) rfl ?_
 rintro _ M213 _ hle214 ⟨_, ⟨vq215, cq215, rfl, rfl, hq215⟩, rfl⟩
 have h202 := h202.mono hle214
 have h0_10 := h0_10.mono hle214
 refine WL.a1 ?_
 obtain ⟨hg219, h⟩ := grd_i h
 refine WL.f1 ?_
 refine WL.eff (EO.append (dd := (Kd.int .u8)) (xs := x174 ++ r196) (ys := r211) Tryd.underlying26 Tryd.underlying26 in5 rfl (appB (by decide) hg219) (by decide) rfl rfl h202 (hq215.src 1 rfl)) rfl ?_
 rintro v218 _ _ - ⟨rfl, c216, rfl, h217⟩
 refine Pa v218 rfl rfl ?_
 refine Ns ?_
 refine Pm v218 rfl rfl ?_
 refine Pu (.pointer (some ⟨g21, 14, none⟩)) (PO.fieldAddr fo68_14 hs175_1 rfl) rfl ?_
 refine Pu (.pointer (some ⟨g21, 15, none⟩)) (PO.fieldAddr fo66_1 rfl rfl) rfl ?_
 refine Pu (.int .i64 a0.Word.Epoch) (PO.loadB 3 pl3 rfl rfl rfl) rfl ?_
 obtain ⟨r220, hr221, h⟩ := bnd h
 refine WL.eff (EO.call0 co74 (f_ref02_Int_ok a0.Word.Epoch _ r220 hr221) (args1 rfl)) rfl ?_
 rintro _ M222 _ hle223 ⟨_, ⟨vq224, cq224, rfl, rfl, hq224⟩, rfl⟩
 have h217 := h217.mono hle223
 have h0_10 := h0_10.mono hle223
 refine WL.a1 ?_
 obtain ⟨hg228, h⟩ := grd_i h
 refine WL.f1 ?_
 refine WL.eff (EO.append (dd := (Kd.int .u8)) (xs := (x174 ++ r196) ++ r211) (ys := r220) Tryd.underlying26 Tryd.underlying26 in5 rfl (appB (by decide) hg228) (by decide) rfl rfl h217 (hq224.src 1 rfl)) rfl ?_
 rintro v227 _ _ - ⟨rfl, c225, rfl, h226⟩
 refine Pa v227 rfl rfl ?_
 refine Ns ?_
 refine Pm v227 rfl rfl ?_
 refine Pu (.pointer (some ⟨g21, 14, none⟩)) (PO.fieldAddr fo68_14 hs175_1 rfl) rfl ?_
 refine Pu (.pointer (some ⟨g21, 16, none⟩)) (PO.fieldAddr fo66_2 rfl rfl) rfl ?_
 refine Pu (.int .i64 a0.Word.High) (PO.loadB 4 pl3 rfl rfl rfl) rfl ?_
 obtain ⟨r229, hr230, h⟩ := bnd h
 refine WL.eff (EO.call0 co74 (f_ref02_Int_ok a0.Word.High _ r229 hr230) (args1 rfl)) rfl ?_
 rintro _ M231 _ hle232 ⟨_, ⟨vq233, cq233, rfl, rfl, hq233⟩, rfl⟩
 have h226 := h226.mono hle232
 have h0_10 := h0_10.mono hle232
 refine WL.a1 ?_
 obtain ⟨hg237, h⟩ := grd_i h
 refine WL.f1 ?_
 refine WL.eff (EO.append (dd := (Kd.int .u8)) (xs := ((x174 ++ r196) ++ r211) ++ r220) (ys := r229) Tryd.underlying26 Tryd.underlying26 in5 rfl (appB (by decide) hg237) (by decide) rfl rfl h226 (hq233.src 1 rfl)) rfl ?_
 rintro v236 _ _ - ⟨rfl, c234, rfl, h235⟩
 refine Pa v236 rfl rfl ?_
 refine Ns ?_
 refine Pm v236 rfl rfl ?_
 refine Pu (.pointer (some ⟨g21, 14, none⟩)) (PO.fieldAddr fo68_14 hs175_1 rfl) rfl ?_
 refine Pu (.pointer (some ⟨g21, 17, none⟩)) (PO.fieldAddr fo66_3 rfl rfl) rfl ?_
 refine Pu (.bool a0.Word.Fence) (PO.loadB 5 pl4 rfl rfl rfl) rfl ?_
 obtain ⟨r238, hr239, h⟩ := bnd h
 refine WL.eff (EO.call0 co76 (f_ref02_Flag_ok a0.Word.Fence _ r238 hr239) (args1 rfl)) rfl ?_
 rintro _ M240 _ hle241 ⟨_, ⟨vq242, cq242, rfl, rfl, hq242⟩, rfl⟩
 have h235 := h235.mono hle241
 have h0_10 := h0_10.mono hle241
 refine WL.a1 ?_
 obtain ⟨hg246, h⟩ := grd_i h
 refine WL.f1 ?_
 refine WL.eff (EO.append (dd := (Kd.int .u8)) (xs := (((x174 ++ r196) ++ r211) ++ r220) ++ r229) (ys := r238) Tryd.underlying26 Tryd.underlying26 in5 rfl (appB (by decide) hg246) (by decide) rfl rfl h235 (hq242.src 1 rfl)) rfl ?_
 rintro v245 _ _ - ⟨rfl, c243, rfl, h244⟩
 refine Pa v245 rfl rfl ?_
 refine Ns ?_
 refine Pm v245 rfl rfl ?_
 refine Pu (.pointer (some ⟨g21, 14, none⟩)) (PO.fieldAddr fo68_14 hs175_1 rfl) rfl ?_
 refine Pu (.pointer (some ⟨g21, 18, none⟩)) (PO.fieldAddr fo66_4 rfl rfl) rfl ?_
 refine Pu (.bool a0.Word.Leave) (PO.loadB 6 pl4 rfl rfl rfl) rfl ?_
 obtain ⟨r247, hr248, h⟩ := bnd h
 refine WL.eff (EO.call0 co76 (f_ref02_Flag_ok a0.Word.Leave _ r247 hr248) (args1 rfl)) rfl ?_
 rintro _ M249 _ hle250 ⟨_, ⟨vq251, cq251, rfl, rfl, hq251⟩, rfl⟩
 have h244 := h244.mono hle250
 have h0_10 := h0_10.mono hle250
 refine WL.a1 ?_
 obtain ⟨hg255, h⟩ := grd_i h
 refine WL.f1 ?_
 refine WL.eff (EO.append (dd := (Kd.int .u8)) (xs := ((((x174 ++ r196) ++ r211) ++ r220) ++ r229) ++ r238) (ys := r247) Tryd.underlying26 Tryd.underlying26 in5 rfl (appB (by decide) hg255) (by decide) rfl rfl h244 (hq251.src 1 rfl)) rfl ?_
 rintro v254 _ _ - ⟨rfl, c252, rfl, h253⟩
 refine Pa v254 rfl rfl ?_
 refine Nt ?_
 refine WC.ret ?_
 refine WQ.f1 ?_
 refine WQ.drop ?_
 refine WQ.f1 ?_
 refine WQ.drop ?_
 refine WQ.f1 ?_
 refine WQ.drop ?_
 refine WQ.f1 ?_
 refine WQ.drop ?_
 refine WQ.f1 ?_
 refine WQ.drop ?_
 refine WQ.f1 ?_
 refine WQ.drop ?_
 refine WQ.f1 ?_
 refine WQ.drop ?_
 exact WQ.returnsF h [c252] rfl (results1 rfl rfl) ((((((((((((((((((((((((((((hle25.trans hle30).trans hle39).trans hle48).trans hle53).trans hle62).trans hle67).trans hle76).trans hle81).trans hle88).trans hle107).trans hle112).trans hle121).trans hle126).trans hle135).trans hle140).trans hle149).trans hle154).trans hle163).trans hle168).trans hle175).trans hle194).trans hle199).trans hle208).trans hle214).trans hle223).trans hle232).trans hle241).trans hle250) ⟨v254, c252, rfl, rfl, h253⟩
 exact WT.no
 exact WT.no
 exact WT.no
 exact WT.no
 exact WT.no
 exact WT.no
 exact WT.no
 exact WT.no
 exact WT.no
 exact WT.no
 exact WT.no
 exact WT.no
 exact WT.no
 exact WT.no
 exact WT.no
 exact WT.no
 exact WT.no
 exact WT.no
 exact WT.no
 exact WT.no
 exact WT.no
 exact WT.no
 exact WT.no
 exact WT.no
 exact WT.no
 exact WT.no
 exact WT.no
 exact WT.no
 exact WT.no
 exact WT.no
 exact WT.no
 exact WT.no
 exact WT.no
 exact WT.no
 exact WT.no
 exact WT.no

noncomputable def f_ref02_Same_l0 (a0 : (List Int)) (a1 : (List Int)) (s_ : Int) : Option (Int ⊕ (Unit ⊕ Unit)) :=
  match s_ with
  | x24 =>
    (if (decide (x24 < (a0.length : Int))) = true then (grd (0 ≤ x24 ∧ x24 < a0.length) (grd (0 ≤ x24 ∧ x24 < a1.length) (if (decide ((rd a0 x24) ≠ (rd a1 x24))) = true then (some (Sum.inr (Sum.inr ()))) else (some (Sum.inl (IntKind.i64.wrap (x24 + (1 : Int)))))))) else (some (Sum.inr (Sum.inl ()))))
noncomputable def f_ref02_Same (a0 : (List Int)) (a1 : (List Int)) : Option Bool :=
  (if (decide ((a0.length : Int) ≠ (a1.length : Int))) = true then (some false) else ((((iter (f_ref02_Same_l0 a0 a1) (0 : Int)).bind (Sum.elim (fun _ => (some (Sum.inl ()))) (fun _ => (((some false)).bind fun r => some (Sum.inr r))))) : Option (Unit ⊕ Bool)).bind (Sum.elim (fun _ => (some true)) some)))
def f_ref02_Same_post (a0 : (List Int)) (a1 : (List Int)) (v0 v1 : Value) : Bool → Value → IM → HL → Prop :=
  fun (r0 : Bool) (v : Value) (M' : IM) (H' : HL) => (.bool r0) = v ∧ H' = []
set_option maxHeartbeats 8000000 in
set_option maxRecDepth 100000 in
theorem f_ref02_Same_ok (a0 : (List Int)) (a1 : (List Int)) (M : IM) (v0 v1 : Value) (h0 : RS (Kd.int .u8) M v0 a0) (h1 : RS (Kd.int .u8) M v1 a1) (res : Bool) (h : f_ref02_Same a0 a1 = some res) :
    Tri Tryd.prog 19 #[v0, v1] M [] (f_ref02_Same_post a0 a1 v0 v1 res) := by
 unfold f_ref02_Same at h
 refine Tri.enter (fn := Tryd.f19) Tryd.func19 rfl (Nat.le_of_ble_eq_true rfl) ?_
 intro F ρ hρ
 refine Sr ?_
 refine Pa (.bool false) rfl rfl ?_
 refine Nt ?_
 refine WC.seq ?_
 refine Sr ?_
 refine Pm v0 (hρ 0) rfl ?_
 refine Pu (.int .i64 (a0.length : Int)) (PO.lenS Tryd.underlying26 rfl h0.len) rfl ?_
 refine Pm v1 (hρ 1) rfl ?_
 refine Pu (.int .i64 (a1.length : Int)) (PO.lenS Tryd.underlying26 rfl h1.len) rfl ?_
 refine Pu (.bool (decide ((a0.length : Int) ≠ (a1.length : Int)))) (PO.neq rfl rfl) rfl ?_
 refine Nt ?_
 refine WC.cond (b := decide ((a0.length : Int) ≠ (a1.length : Int))) rfl (fun hb21 => ?_) (fun hb21 => ?_)
 have h := ite_t hb21 h
 refine Sr ?_
 refine Pa (.bool false) rfl rfl ?_
 refine Nt ?_
 refine WC.ret ?_
 refine WQ.thenR ?_
 exact WQ.returnsF h [] rfl (results1 rfl rfl) (IM.le.refl _) ⟨rfl, rfl⟩
 have h := ite_f hb21 h
 refine WC.skip ?_
 refine WQ.thenC ?_
 obtain ⟨j22, hj22, h⟩ := bnd h
 refine WC.joinE (fun (_ : Unit) ρ' M' H' => M.le M' ∧ F = H') j22 ?_ ?_
 have h322 := h
 have h := hj22
 refine Sr ?_
 refine Pa (.int .i64 0) rfl rfl ?_
 refine Nt ?_
 refine WC.block ?_
 obtain ⟨e23, he23, hK23⟩ := bnd h
 clear h
 refine WC.loop he23 (fun (x24 : Int) ρ' M' H' => M.le M' ∧ F = H' ∧ ρ' 0 = v0 ∧ ρ' 1 = v1 ∧ ρ' 5 = (.int .i64 x24)) ?_ ?_
 exact ⟨(IM.le.refl _), rfl, (hρ 0), (hρ 1), rfl⟩
 rintro x24 o23 ρ23 M23 H23 h ⟨hle23, rfl, hs23_0, hs23_1, hs23_5⟩
 unfold f_ref02_Same_l0 at h
 have h0 := h0.mono hle23
 have h1 := h1.mono hle23
 refine WC.seq ?_
 refine Sr ?_
 refine Pm (.int .i64 x24) hs23_5 rfl ?_
 refine Pm v0 hs23_0 rfl ?_
 refine Pu (.int .i64 (a0.length : Int)) (PO.lenS Tryd.underlying26 rfl h0.len) rfl ?_
 refine Pu (.bool (decide (x24 < (a0.length : Int)))) (PO.lss rfl rfl) rfl ?_
 refine Nt ?_
 refine WC.cond (b := decide (x24 < (a0.length : Int))) rfl (fun hb25 => ?_) (fun hb25 => ?_)
 have h := ite_t hb25 h
 refine WC.skip ?_
 refine WQ.thenC ?_
 refine WC.seq ?_
 refine WC.block ?_
 refine WC.seq ?_
 refine WC.draw [0, 0, 3, 7, 0, 0, 48, 112, 255] (.pure 0 (.pure 1 (.pure 2 (.pure 3 (.pure 4 (.pure 5 (.pure 6 (.pure 7 (.pure 8 .done))))))))) mixed (by kernel_rfl) ?_
 refine Tp v0 rfl (PO.move hs23_0) rfl ?_
 refine Tp (.int .i64 x24) rfl (PO.move hs23_5) rfl ?_
 obtain ⟨hg26, h⟩ := grd_i h
 obtain ⟨p27, cs28, hat29, hrc30, hhas31⟩ := h0.at hg26.1 hg26.2 (by decide)
 obtain rfl := hrc30
 refine Tp (.pointer (some p27)) rfl (PO.indexAddr (n := a0.length) Tryd.underlying26 sz5 rfl rfl hg26.1 hg26.2 hat29) rfl ?_
 refine Tp (.int .u8 (rd a0 x24)) rfl (PO.loadM pl5 rfl (IM.has0 hhas31)) rfl ?_
 refine Tp v1 rfl (PO.move hs23_1) rfl ?_
 refine Tp (.int .i64 x24) rfl (PO.move hs23_5) rfl ?_
 obtain ⟨hg33, h⟩ := grd_i h
 obtain ⟨p34, cs35, hat36, hrc37, hhas38⟩ := h1.at hg33.1 hg33.2 (by decide)
 obtain rfl := hrc37
 refine Tp (.pointer (some p34)) rfl (PO.indexAddr (n := a1.length) Tryd.underlying26 sz5 rfl rfl hg33.1 hg33.2 hat36) rfl ?_
 refine Tp (.int .u8 (rd a1 x24)) rfl (PO.loadM pl5 rfl (IM.has0 hhas38)) rfl ?_
 refine Tp (.bool (decide ((rd a0 x24) ≠ (rd a1 x24)))) rfl (PO.neq rfl rfl) rfl ?_
 refine WT.fin ?_
 refine WQ.thenC ?_
 refine WC.cond (b := decide ((rd a0 x24) ≠ (rd a1 x24))) rfl (fun hb40 => ?_) (fun hb40 => ?_)
 have h := ite_t hb40 h
 refine Sr ?_
 refine Pa (.bool false) rfl rfl ?_
 refine Nt ?_
 refine WC.ret ?_
 refine WQ.blockR ?_
 refine WQ.thenR ?_
 refine WQ.leaveR (Sum.inr ()) (Option.some.inj h).symm (fun heq23 => ?_)
 subst heq23
 have h := (elimR hK23)
 refine WQ.blockR ?_
 refine WQ.thenR ?_
 have h := KK.early h h322
 exact WQ.returnsF h [] rfl (results1 rfl rfl) hle23 ⟨rfl, rfl⟩
 have h := ite_f hb40 h
 refine WC.skip ?_
 refine WQ.blockN ?_
 refine WQ.thenC ?_
 refine WC.region ?_
 refine Pm (.int .i64 x24) hs23_5 rfl ?_
 refine Pu (.int .i64 (IntKind.i64.wrap (x24 + (1 : Int)))) (PO.add rfl rfl) rfl ?_
 refine Pa (.int .i64 (IntKind.i64.wrap (x24 + (1 : Int)))) rfl rfl ?_
 refine WL.nil ?_
 refine WQ.again (IntKind.i64.wrap (x24 + (1 : Int))) (Option.some.inj h).symm ?_
 exact ⟨hle23, rfl, hs23_0, hs23_1, rfl⟩
 have h := ite_f hb25 h
 refine WC.exit ?_
 refine WQ.thenE ?_
 refine WQ.leaveE (Sum.inl ()) (Option.some.inj h).symm (fun heq23 => ?_)
 subst heq23
 have h := elimL hK23
 refine WQ.blockH ?_
 refine WQ.thenFE h ?_
 exact ⟨hle23, rfl⟩
 rintro _ ρ22 M22 H22 rfl ⟨hle22, rfl⟩
 refine Sr ?_
 refine Pa (.bool true) rfl rfl ?_
 refine Nt ?_
 refine WC.ret ?_
 exact WQ.returnsF h [] rfl (results1 rfl rfl) hle22 ⟨rfl, rfl⟩

noncomputable def f_ref22_ReplyBytes (a0 : T_api_Reply) : Option (List Int) :=
  ((f_ref02_Int a0.Client).bind fun (r22 : (List Int)) => ((f_ref02_Int a0.Serial).bind fun (r27 : (List Int)) => (grd (r22.length + r27.length ≤ 274877906944) ((f_ref02_Int a0.Code).bind fun (r36 : (List Int)) => (grd ((r22 ++ r27).length + r36.length ≤ 274877906944) ((f_ref02_Int a0.Leader).bind fun (r45 : (List Int)) => (grd (((r22 ++ r27) ++ r36).length + r45.length ≤ 274877906944) ((f_ref02_Flag a0.Told.Fenced).bind fun (r54 : (List Int)) => (grd ((((r22 ++ r27) ++ r36) ++ r45).length + r54.length ≤ 274877906944) ((f_ref02_Flag a0.Told.Leaving).bind fun (r63 : (List Int)) => (grd (((((r22 ++ r27) ++ r36) ++ r45) ++ r54).length + r63.length ≤ 274877906944) ((f_ref02_Flag a0.Told.Stop).bind fun (r72 : (List Int)) => (grd ((((((r22 ++ r27) ++ r36) ++ r45) ++ r54) ++ r63).length + r72.length ≤ 274877906944) (some ((((((r22 ++ r27) ++ r36) ++ r45) ++ r54) ++ r63) ++ r72)))))))))))))))
def f_ref22_ReplyBytes_post (a0 : T_api_Reply) : (List Int) → Value → IM → HL → Prop :=
  fun (r0 : (List Int)) (v : Value) (M' : IM) (H' : HL) => ∃ vz0 cz0, vz0 = v ∧ H' = [cz0] ∧ OwnS (Kd.int .u8) M' vz0 r0 cz0
set_option maxHeartbeats 8000000 in
set_option maxRecDepth 100000 in
theorem f_ref22_ReplyBytes_ok (a0 : T_api_Reply) (M : IM) (res : (List Int)) (h : f_ref22_ReplyBytes a0 = some res) :
    Tri Tryd.prog 39 #[(a72_ a0)] M [] (f_ref22_ReplyBytes_post a0 res) := by
 unfold f_ref22_ReplyBytes at h
 refine Tri.enter (fn := Tryd.f39) Tryd.func39 rfl (Nat.le_of_ble_eq_true rfl) ?_
 intro F ρ hρ
 refine Sr ?_
 refine WL.eff (EO.box (cs := (l72 a0).toArray) (congrArg Value.cells (asE (a72_ a0) (hρ 0)))) rfl ?_
 rintro _ _ _ - ⟨rfl, g21, rfl, rfl⟩
 refine Pa (.slice none 0 0) rfl rfl ?_
 refine Ns ?_
 refine Pu (.pointer (some ⟨g21, 0, none⟩)) (PO.fieldAddr fo72_0 rfl rfl) rfl ?_
 refine Pu (.int .i64 a0.Client) (PO.loadB 0 pl3 rfl rfl rfl) rfl ?_
 obtain ⟨r22, hr23, h⟩ := bnd h
 refine WL.eff (EO.call0 co74 (f_ref02_Int_ok a0.Client _ r22 hr23) (args1 rfl)) rfl ?_
 rintro _ M24 _ hle25 ⟨_, ⟨vq26, cq26, rfl, rfl, hq26⟩, rfl⟩
 refine WL.a1 ?_
 refine Pa vq26 rfl rfl ?_
 refine Ns ?_
 refine Pm vq26 rfl rfl ?_
 refine Pu (.pointer (some ⟨g21, 1, none⟩)) (PO.fieldAddr fo72_1 rfl rfl) rfl ?_
 refine Pu (.int .i64 a0.Serial) (PO.loadB 1 pl3 rfl rfl rfl) rfl ?_
 obtain ⟨r27, hr28, h⟩ := bnd h
 refine WL.eff (EO.call0 co74 (f_ref02_Int_ok a0.Serial _ r27 hr28) (args1 rfl)) rfl ?_
 rintro _ M29 _ hle30 ⟨_, ⟨vq31, cq31, rfl, rfl, hq31⟩, rfl⟩
 have hq26 := hq26.mono hle30
 refine WL.a1 ?_
 obtain ⟨hg35, h⟩ := grd_i h
 refine WL.f1 ?_
 refine WL.eff (EO.append (dd := (Kd.int .u8)) (xs := r22) (ys := r27) Tryd.underlying26 Tryd.underlying26 in5 rfl (appB (by decide) hg35) (by decide) rfl rfl hq26 (hq31.src 1 rfl)) rfl ?_
 rintro v34 _ _ - ⟨rfl, c32, rfl, h33⟩
 refine Pa v34 rfl rfl ?_
 refine Ns ?_
 refine Pm v34 rfl rfl ?_
 refine Pu (.pointer (some ⟨g21, 2, none⟩)) (PO.fieldAddr fo72_2 rfl rfl) rfl ?_
 refine Pu (.int .i64 a0.Code) (PO.loadB 2 pl3 rfl rfl rfl) rfl ?_
 obtain ⟨r36, hr37, h⟩ := bnd h
 refine WL.eff (EO.call0 co74 (f_ref02_Int_ok a0.Code _ r36 hr37) (args1 rfl)) rfl ?_
 rintro _ M38 _ hle39 ⟨_, ⟨vq40, cq40, rfl, rfl, hq40⟩, rfl⟩
 have h33 := h33.mono hle39
 refine WL.a1 ?_
 obtain ⟨hg44, h⟩ := grd_i h
 refine WL.f1 ?_
 refine WL.eff (EO.append (dd := (Kd.int .u8)) (xs := r22 ++ r27) (ys := r36) Tryd.underlying26 Tryd.underlying26 in5 rfl (appB (by decide) hg44) (by decide) rfl rfl h33 (hq40.src 1 rfl)) rfl ?_
 rintro v43 _ _ - ⟨rfl, c41, rfl, h42⟩
 refine Pa v43 rfl rfl ?_
 refine Ns ?_
 refine Pm v43 rfl rfl ?_
 refine Pu (.pointer (some ⟨g21, 3, none⟩)) (PO.fieldAddr fo72_3 rfl rfl) rfl ?_
 refine Pu (.int .i64 a0.Leader) (PO.loadB 3 pl3 rfl rfl rfl) rfl ?_
 obtain ⟨r45, hr46, h⟩ := bnd h
 refine WL.eff (EO.call0 co74 (f_ref02_Int_ok a0.Leader _ r45 hr46) (args1 rfl)) rfl ?_
 rintro _ M47 _ hle48 ⟨_, ⟨vq49, cq49, rfl, rfl, hq49⟩, rfl⟩
 have h42 := h42.mono hle48
 refine WL.a1 ?_
 obtain ⟨hg53, h⟩ := grd_i h
 refine WL.f1 ?_
 refine WL.eff (EO.append (dd := (Kd.int .u8)) (xs := (r22 ++ r27) ++ r36) (ys := r45) Tryd.underlying26 Tryd.underlying26 in5 rfl (appB (by decide) hg53) (by decide) rfl rfl h42 (hq49.src 1 rfl)) rfl ?_
 rintro v52 _ _ - ⟨rfl, c50, rfl, h51⟩
 refine Pa v52 rfl rfl ?_
 refine Ns ?_
 refine Pm v52 rfl rfl ?_
 refine Pu (.pointer (some ⟨g21, 4, none⟩)) (PO.fieldAddr fo72_4 rfl rfl) rfl ?_
 refine Pu (.pointer (some ⟨g21, 4, none⟩)) (PO.fieldAddr fo70_0 rfl rfl) rfl ?_
 refine Pu (.bool a0.Told.Fenced) (PO.loadB 4 pl4 rfl rfl rfl) rfl ?_
 obtain ⟨r54, hr55, h⟩ := bnd h
 refine WL.eff (EO.call0 co76 (f_ref02_Flag_ok a0.Told.Fenced _ r54 hr55) (args1 rfl)) rfl ?_
 rintro _ M56 _ hle57 ⟨_, ⟨vq58, cq58, rfl, rfl, hq58⟩, rfl⟩
 have h51 := h51.mono hle57
 refine WL.a1 ?_
 obtain ⟨hg62, h⟩ := grd_i h
 refine WL.f1 ?_
 refine WL.eff (EO.append (dd := (Kd.int .u8)) (xs := ((r22 ++ r27) ++ r36) ++ r45) (ys := r54) Tryd.underlying26 Tryd.underlying26 in5 rfl (appB (by decide) hg62) (by decide) rfl rfl h51 (hq58.src 1 rfl)) rfl ?_
 rintro v61 _ _ - ⟨rfl, c59, rfl, h60⟩
 refine Pa v61 rfl rfl ?_
 refine Ns ?_
 refine Pm v61 rfl rfl ?_
 refine Pu (.pointer (some ⟨g21, 4, none⟩)) (PO.fieldAddr fo72_4 rfl rfl) rfl ?_
 refine Pu (.pointer (some ⟨g21, 5, none⟩)) (PO.fieldAddr fo70_1 rfl rfl) rfl ?_
 refine Pu (.bool a0.Told.Leaving) (PO.loadB 5 pl4 rfl rfl rfl) rfl ?_
 obtain ⟨r63, hr64, h⟩ := bnd h
 refine WL.eff (EO.call0 co76 (f_ref02_Flag_ok a0.Told.Leaving _ r63 hr64) (args1 rfl)) rfl ?_
 rintro _ M65 _ hle66 ⟨_, ⟨vq67, cq67, rfl, rfl, hq67⟩, rfl⟩
 have h60 := h60.mono hle66
 refine WL.a1 ?_
 obtain ⟨hg71, h⟩ := grd_i h
 refine WL.f1 ?_
 refine WL.eff (EO.append (dd := (Kd.int .u8)) (xs := (((r22 ++ r27) ++ r36) ++ r45) ++ r54) (ys := r63) Tryd.underlying26 Tryd.underlying26 in5 rfl (appB (by decide) hg71) (by decide) rfl rfl h60 (hq67.src 1 rfl)) rfl ?_
 rintro v70 _ _ - ⟨rfl, c68, rfl, h69⟩
 refine Pa v70 rfl rfl ?_
 refine Ns ?_
 refine Pm v70 rfl rfl ?_
 refine Pu (.pointer (some ⟨g21, 4, none⟩)) (PO.fieldAddr fo72_4 rfl rfl) rfl ?_
 refine Pu (.pointer (some ⟨g21, 6, none⟩)) (PO.fieldAddr fo70_2 rfl rfl) rfl ?_
 refine Pu (.bool a0.Told.Stop) (PO.loadB 6 pl4 rfl rfl rfl) rfl ?_
 obtain ⟨r72, hr73, h⟩ := bnd h
 refine WL.eff (EO.call0 co76 (f_ref02_Flag_ok a0.Told.Stop _ r72 hr73) (args1 rfl)) rfl ?_
 rintro _ M74 _ hle75 ⟨_, ⟨vq76, cq76, rfl, rfl, hq76⟩, rfl⟩
 have h69 := h69.mono hle75
 refine WL.a1 ?_
 obtain ⟨hg80, h⟩ := grd_i h
 refine WL.f1 ?_
 refine WL.eff (EO.append (dd := (Kd.int .u8)) (xs := ((((r22 ++ r27) ++ r36) ++ r45) ++ r54) ++ r63) (ys := r72) Tryd.underlying26 Tryd.underlying26 in5 rfl (appB (by decide) hg80) (by decide) rfl rfl h69 (hq76.src 1 rfl)) rfl ?_
 rintro v79 _ _ - ⟨rfl, c77, rfl, h78⟩
 refine Pa v79 rfl rfl ?_
 refine Nt ?_
 refine WC.ret ?_
 refine WQ.f1 ?_
 refine WQ.drop ?_
 refine WQ.f1 ?_
 refine WQ.drop ?_
 refine WQ.f1 ?_
 refine WQ.drop ?_
 refine WQ.f1 ?_
 refine WQ.drop ?_
 refine WQ.f1 ?_
 refine WQ.drop ?_
 refine WQ.f1 ?_
 refine WQ.drop ?_
 refine WQ.f1 ?_
 refine WQ.drop ?_
 exact WQ.returnsF h [c77] rfl (results1 rfl rfl) ((((((hle25.trans hle30).trans hle39).trans hle48).trans hle57).trans hle66).trans hle75) ⟨v79, c77, rfl, rfl, h78⟩


end Go.Proofs.YtjgnbbakamellaaDoor.G
