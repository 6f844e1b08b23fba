/- Go functions: what they come to, and that they do. Printed by a program of the session (gen). -/
import Derived.Test.YtkflneabcannnaaGreatDoorCF
import Derived.Test.YtkflneabcannnaaGreatDoorC2
import Derived.Test.YtkflneabcannnaaGreatDoorC4
import Derived.Test.YtkflneabcannnaaGreatDoorC5
import Derived.Test.YtkflneabcannnaaGreatDoorC8
import Derived.Test.YtkflneabcannnaaGreatDoorC9
import Derived.Test.YtkflneabcannnaaGreatDoorKConv
import Derived.Test.YtkflneabcannnaaGreatDoorKShar2
import Derived.Test.YtkflneabcannnaaGreatDoorKTight2
set_option linter.unusedVariables false
set_option linter.unusedSimpArgs false
set_option maxHeartbeats 8000000
set_option maxRecDepth 100000
namespace Go.Proofs.YtkflneabcannnaaGreatDoor.G
open Go Go.KK

noncomputable def f_errors_Is (a0 : GErr) (a1 : Int) : Option Bool :=
  (if a0.isNil = true then (match a0 with | .nil => (some false) | .code n22 => (some (decide (n22 = a1))) | .fault o23 a24 e25 => (some false) | .other b26 => (some false)) else ((f_errors_is a0 a1).bind fun r27 => (some r27)))
def f_errors_Is_post (a0 : GErr) (a1 : Int) : Bool → Value → IM → HL → Prop :=
  fun (r0 : Bool) (v : Value) (M' : IM) (H' : HL) => (.bool r0) = v ∧ H' = []
theorem f_errors_Is_ok (a0 : GErr) (a1 : Int) (M : IM) (res : Bool) (h : f_errors_Is a0 a1 = some res) :
    Tri Tryz.prog 65 #[(GV a0), (GV (GErr.code a1))] M [] (f_errors_Is_post a0 a1 res) := by
 unfold f_errors_Is at h
 refine Te Tryz.func65 rfl rfl ?_
 intro F ρ hρ
 refine Sr (qa (Bv false) (Nt (Cs (Sr (qM (GV a0) (hρ 0) (qu (Bv a0.isNil) (PO.errNil Tryz.underlying31 rfl) (qm (Bv a0.isNil) ?_)))))))
 rcases Bt (a0.isNil) with hb21 | hb21
 have h := ite_t hb21 h
 iterate 2 refine Of 8 rfl rfl hb21 rfl ?_
 refine qu (Bv true) (Pt rfl hb21 rfl) (Nt (WC.condT (b := true) rfl rfl (Sr (qM (GV a0) (hρ 0) (qM (GV (GErr.code a1)) (hρ 1) ?_)))))
 rcases a0 with _ | n22 | ⟨o23, a24, e25⟩ | b26
 exact qu (Bv false) (PO.nilIfaceNe Tryz.underlying31 (show ev _ _ = .nilIface from rfl) (show ev _ _ = (.iface 38 (Iv a1)) from rfl)) (qa (Bv false) (Nt (Cr (Tr (Rf h [] rfl (Rs rfl rfl) lr ⟨rfl, rfl⟩)))))
 exact qu (Bv (decide (n22 = a1))) (PO.ifaceInt Tryz.underlying31 Tryz.underlying38 cm38 (show ev _ _ = (.iface 38 (Iv n22)) from rfl) (show ev _ _ = (.iface 38 (Iv a1)) from rfl)) (qa (Bv (decide (n22 = a1))) (Nt (Cr (Tr (Rf h [] rfl (Rs rfl rfl) lr ⟨rfl, rfl⟩)))))
 exact qu (Bv false) (PO.ifaceNe Tryz.underlying31 (show ev _ _ = (.iface 108 (.agg #[.string o23, .int .i64 a24, GV e25])) from rfl) (show ev _ _ = (.iface 38 (Iv a1)) from rfl) rfl) (qa (Bv false) (Nt (Cr (Tr (Rf h [] rfl (Rs rfl rfl) lr ⟨rfl, rfl⟩)))))
 exact qu (Bv false) (PO.ifaceNe Tryz.underlying31 (show ev _ _ = (.iface 0 (.pointer (some b26))) from rfl) (show ev _ _ = (.iface 38 (Iv a1)) from rfl) rfl) (qa (Bv false) (Nt (Cr (Tr (Rf h [] rfl (Rs rfl rfl) lr ⟨rfl, rfl⟩)))))
 have h := ite_f hb21 h
 refine On 8 rfl rfl hb21 (qM (GV (GErr.code a1)) (hρ 1) (qo 8 hb21 (Bv false) (PO.errNil (tc := 38) (tf := 108) (tp := 0) (e := GErr.code a1) Tryz.underlying31 rfl) (qu (Bv false) (Pf rfl hb21 rfl) (Nt (WC.condF (b := false) rfl rfl (Ck (Tc (Sr (qM (GV (GErr.code a1)) (hρ 1) (We (EO.extP xt91 (args1 (show ev _ _ = (.iface 38 (Iv a1)) from rfl)) (ty38 _)) rfl ?_))))))))))
 rintro _ _ _ - ⟨rfl, rfl, rfl⟩
 refine We (EO.invE (show ev _ _ = (.iface 184 (.agg #[.pointer (some ⟨1, 38, none⟩)])) from rfl) (mm_Comparable (pt 1 38)) xt174 inv0 mr_Comparable_38) rfl ?_
 rintro _ _ _ - ⟨rfl, rfl, rfl⟩
 refine qa (Bv true) (Ns (qM (GV a0) (hρ 0) (qM (GV (GErr.code a1)) (hρ 1) (qm (Bv true) ?_))))
 obtain ⟨r27, hr28, h⟩ := bnd h
 refine We (Ca co92 (f_errors_is_ok a0 a1 _ r27 hr28) (args3 rfl rfl rfl)) rfl ?_
 rintro _ M29 _ hle30 ⟨_, ⟨rfl, rfl⟩, rfl⟩
 exact WL.a0 (qa (Bv r27) (Nt (Cr (Rf h [] rfl (Rs rfl rfl) hle30 ⟨rfl, rfl⟩))))

noncomputable def f_fault_Is (a0 : GErr) (a1 : Int) : Option Bool :=
  ((f_errors_Is a0 a1).bind fun r21 => (some r21))
def f_fault_Is_post (a0 : GErr) (a1 : Int) : Bool → Value → IM → HL → Prop :=
  fun (r0 : Bool) (v : Value) (M' : IM) (H' : HL) => (.bool r0) = v ∧ H' = []
theorem f_fault_Is_ok (a0 : GErr) (a1 : Int) (M : IM) (res : Bool) (h : f_fault_Is a0 a1 = some res) :
    Tri Tryz.prog 22 #[(GV a0), (Iv a1)] M [] (f_fault_Is_post a0 a1 res) := by
 unfold f_fault_Is at h
 refine Te Tryz.func22 rfl rfl ?_
 intro F ρ hρ
 refine Sr (qa (Bv false) (Ns (qM (GV a0) (hρ 0) (qM (Iv a1) (hρ 1) (qu (GV (GErr.code a1)) (PO.makeInterface cc38 rfl) ?_)))))
 obtain ⟨r21, hr22, h⟩ := bnd h
 refine We (Ca co65 (f_errors_Is_ok a0 a1 _ r21 hr22) (args2 rfl rfl)) rfl ?_
 rintro _ M23 _ hle24 ⟨_, ⟨rfl, rfl⟩, rfl⟩
 exact WL.a0 (qa (Bv r21) (Nt (Cr (Rf h [] rfl (Rs rfl rfl) hle24 ⟨rfl, rfl⟩))))

noncomputable def f_slices_Clone_int_int (a0 : (List Int)) : Option (List Int) :=
  (grd (([] : List Int).length + a0.length ≤ 274877906944) (some (([] : List Int) ++ a0)))
def f_slices_Clone_int_int_post (a0 : (List Int)) (v0 : Value) : (List Int) → Value → IM → HL → Prop :=
  fun (r0 : (List Int)) (v : Value) (M' : IM) (H' : HL) => ∃ vz0 cz0, vz0 = v ∧ H' = [cz0] ∧ OwnS (Kd.int .i64) M' vz0 r0 cz0
theorem f_slices_Clone_int_int_ok (a0 : (List Int)) (M : IM) (v0 : Value) (h0 : RS (Kd.int .i64) M v0 a0) (res : (List Int)) (h : f_slices_Clone_int_int a0 = some res) :
    Tri Tryz.prog 140 #[v0] M [] (f_slices_Clone_int_int_post a0 v0 res) := by
 unfold f_slices_Clone_int_int at h
 refine Te Tryz.func140 rfl rfl ?_
 intro F ρ hρ
 refine Sr (qa Zs (Nt (Cs (Sr (qM v0 (hρ 0) (qu (Bv (nilS v0)) (PO.sliceNil Tryz.underlying56 rfl h0.len rfl) (Nt (Cd (b := nilS v0) rfl (fun hb21 => ?_) (fun hb21 => ?_)))))))))
 obtain rfl := h0.nilxs (by decide) hb21
 have h := Eq.trans (a := ((some []) : Option (List Int))) (by simp [grd]) h
 exact Sr (qa Zs (Nt (Cr (Tr (WQ.e0 (Rf h [[]] rfl (Rs rfl rfl) lr ⟨Zs, [], rfl, rfl, (OwnS.nil _ _)⟩))))))
 refine Ck (Tc (Sr (We (EO.buildSliceL (cl := []) Tryz.underlying56 iz3 rfl Pz rfl) rfl ?_)))
 rintro _ _ _ - ⟨rfl, g23, rfl, rfl⟩
 have h25 : OwnS (Kd.int .i64) M (.slice (some ⟨g23, 0, none⟩) 0 0) [] [(g23, .cells #[] 3 (0, 0))] := OwnS.rows (css := []) Rows.nil rfl rfl
 refine qM v0 (hρ 0) ?_
 obtain ⟨hg29, h⟩ := grd_i h
 refine We (EO.append (dd := (Kd.int .i64)) (xs := []) (ys := a0) Tryz.underlying56 Tryz.underlying56 in3 rfl (appB (by decide) hg29) (by decide) rfl rfl h25 (h0.src _)) rfl ?_
 rintro v28 _ _ - ⟨rfl, c26, rfl, h27⟩
 exact qa v28 (Nt (Cr (Rf h [c26] rfl (Rs rfl rfl) lr ⟨v28, c26, rfl, rfl, h27⟩)))

noncomputable def f_batch_one (a0 : T_api_Record) : Option T_api_Record :=
  ((f_slices_Clone_int_int a0.Ids).bind fun r23 => ((f_slices_Clone_int_int a0.Isr).bind fun r28 => ((f_slices_Clone_int_int a0.Add).bind fun r33 => ((f_slices_Clone_int_int a0.Drop).bind fun r38 => (some (⟨a0.Kind, a0.Broker, a0.Epoch, a0.Topic, a0.Part, a0.Leader, a0.Client, a0.Serial, a0.Code, a0.Flag, a0.Name, a0.Key, a0.Value, a0.Rack, r23, r28, r33, r38⟩ : T_api_Record))))))
def f_batch_one_post (a0 : T_api_Record) (v0_14 v0_15 v0_16 v0_17 : Value) : T_api_Record → Value → IM → HL → Prop :=
  fun (r0 : T_api_Record) (v : Value) (M' : IM) (H' : HL) => ∃ vz0_14 cz0_14 vz0_15 cz0_15 vz0_16 cz0_16 vz0_17 cz0_17, (.agg #[(.int .i64 r0.Kind), (.int .i64 r0.Broker), (.int .i64 r0.Epoch), (.int .i64 r0.Topic), (.int .i64 r0.Part), (.int .i64 r0.Leader), (.int .i64 r0.Client), (.int .i64 r0.Serial), (.int .i64 r0.Code), (.bool r0.Flag), (.string r0.Name), (.string r0.Key), (.string r0.Value), (.string r0.Rack), vz0_14, vz0_15, vz0_16, vz0_17]) = v ∧ H' = [cz0_14, cz0_15, cz0_16, cz0_17] ∧ OwnS (Kd.int .i64) M' vz0_14 r0.Ids cz0_14 ∧ OwnS (Kd.int .i64) M' vz0_15 r0.Isr cz0_15 ∧ OwnS (Kd.int .i64) M' vz0_16 r0.Add cz0_16 ∧ OwnS (Kd.int .i64) M' vz0_17 r0.Drop cz0_17
theorem f_batch_one_ok (a0 : T_api_Record) (M : IM) (v0_14 v0_15 v0_16 v0_17 : Value) (h0_14 : RS (Kd.int .i64) M v0_14 a0.Ids) (h0_15 : RS (Kd.int .i64) M v0_15 a0.Isr) (h0_16 : RS (Kd.int .i64) M v0_16 a0.Add) (h0_17 : RS (Kd.int .i64) M v0_17 a0.Drop) (res : T_api_Record) (h : f_batch_one a0 = some res) :
    Tri Tryz.prog 121 #[(a58_ a0 v0_14 v0_15 v0_16 v0_17)] M [] (f_batch_one_post a0 v0_14 v0_15 v0_16 v0_17 res) := by
 unfold f_batch_one at h
 refine Te Tryz.func121 rfl rfl ?_
 intro F ρ hρ
 refine Sr (We (EO.box (cs := (l58 a0 v0_14 v0_15 v0_16 v0_17).toArray) (congrArg Value.cells (asE (a58_ a0 v0_14 v0_15 v0_16 v0_17) (hρ 0)))) rfl ?_)
 rintro _ _ _ - ⟨rfl, g21, rfl, rfl⟩
 refine We (Al ze58 rfl) rfl ?_
 rintro _ _ _ - ⟨rfl, g22, rfl, rfl⟩
 refine Nt (Cs (WC.draw [0, 1, 3, 0, 8, 31, 31, 127, 255, 511] (.pure 0 (.pure 1 (.pure 3 (.pure 4 (.alt 2 (.pure 6 (.alt 5 (.alt 7 (.pure 8 (.alt 9 .done .none)) .none) .none)) .none))))) mixed (by kernel_rfl) (qt (pt g21 14) rfl (Fa fo58_14 rfl rfl) (qt v0_14 rfl (Lb 1 pl56 rfl rfl rfl) (qt (pt g21 15) rfl (Fa fo58_15 rfl rfl) (qt v0_15 rfl (Lb 1 pl56 rfl rfl rfl) ?_))))))
 obtain ⟨r23, hr24, h⟩ := bnd h
 refine Ta rfl (Ca co140 (f_slices_Clone_int_int_ok a0.Ids _ _ h0_14 r23 hr24) (args1 rfl)) rfl ?_ ?_
 rintro _ M25 _ hle26 ⟨_, ⟨vq27, cq27, rfl, rfl, hq27⟩, rfl⟩
 refine ⟨(Ss rfl (Lb 2 pl56 rfl rfl rfl) rfl (Ss rfl (Fa fo58_15 rfl rfl) rfl (Sl rfl))), ?_⟩
 refine WT.a1 (qt (pt g21 14) rfl (Fa fo58_14 rfl rfl) ?_)
 obtain ⟨r28, hr29, h⟩ := bnd h
 have h0_15 := h0_15.mono hle26
 refine Ta rfl (Ca co140 (f_slices_Clone_int_int_ok a0.Isr _ _ h0_15 r28 hr29) (args1 rfl)) rfl ?_ ?_
 rintro _ M30 _ hle31 ⟨_, ⟨vq32, cq32, rfl, rfl, hq32⟩, rfl⟩
 refine ⟨(Ss rfl (Fa fo58_14 rfl rfl) rfl (Sl rfl)), ?_⟩
 refine WT.a1 (WT.f3 ?_)
 have hq27 := hq27.mono hle31
 refine Ta rfl (Es vq27 ((l58 a0 vq27 v0_15 v0_16 v0_17)) hq27.cells sz56 rfl rfl (Ow hq27) rfl rfl (by kernel_rfl)) rfl ?_ ?_
 rintro _ _ _ - ⟨rfl, rfl⟩
 refine ⟨(Sl rfl), ?_⟩
 refine qt (pt g21 15) rfl (Fa fo58_15 rfl rfl) (Ta rfl (Es vq32 ((l58 a0 vq27 vq32 v0_16 v0_17)) hq32.cells sz56 rfl rfl (Ow hq32) rfl rfl (by kernel_rfl)) rfl ?_ ?_)
 rintro _ _ _ - ⟨rfl, rfl⟩
 refine ⟨(Sl rfl), ?_⟩
 refine Ti (Tc (Cs (WC.draw [0, 1, 3, 0, 8, 31, 31, 127, 255, 511] (.pure 0 (.pure 1 (.pure 3 (.pure 4 (.alt 2 (.pure 6 (.alt 5 (.alt 7 (.pure 8 (.alt 9 .done .none)) .none) .none)) .none))))) mixed (by kernel_rfl) (qt (pt g21 16) rfl (Fa fo58_16 rfl rfl) (qt v0_16 rfl (Lb 0 pl56 rfl rfl rfl) (qt (pt g21 17) rfl (Fa fo58_17 rfl rfl) (qt v0_17 rfl (Lb 0 pl56 rfl rfl rfl) ?_)))))))
 obtain ⟨r33, hr34, h⟩ := bnd h
 have h0_16 := h0_16.mono (hle26.trans hle31)
 refine Ta rfl (Ca co140 (f_slices_Clone_int_int_ok a0.Add _ _ h0_16 r33 hr34) (args1 rfl)) rfl ?_ ?_
 rintro _ M35 _ hle36 ⟨_, ⟨vq37, cq37, rfl, rfl, hq37⟩, rfl⟩
 refine ⟨(Ss rfl (Lb 1 pl56 rfl rfl rfl) rfl (Ss rfl (Fa fo58_17 rfl rfl) rfl (Sl rfl))), ?_⟩
 refine WT.a1 (qt (pt g21 16) rfl (Fa fo58_16 rfl rfl) ?_)
 obtain ⟨r38, hr39, h⟩ := bnd h
 have h0_17 := h0_17.mono ((hle26.trans hle31).trans hle36)
 refine Ta rfl (Ca co140 (f_slices_Clone_int_int_ok a0.Drop _ _ h0_17 r38 hr39) (args1 rfl)) rfl ?_ ?_
 rintro _ M40 _ hle41 ⟨_, ⟨vq42, cq42, rfl, rfl, hq42⟩, rfl⟩
 refine ⟨(Ss rfl (Fa fo58_16 rfl rfl) rfl (Sl rfl)), ?_⟩
 refine WT.a1 (WT.f2 ?_)
 have hq37 := hq37.mono hle41
 refine Ta rfl (Es vq37 ((l58 a0 vq27 vq32 vq37 v0_17)) hq37.cells sz56 rfl rfl (Ow hq37) rfl rfl (by kernel_rfl)) rfl ?_ ?_
 rintro _ _ _ - ⟨rfl, rfl⟩
 refine ⟨(Sl rfl), ?_⟩
 refine qt (pt g21 17) rfl (Fa fo58_17 rfl rfl) (Ta rfl (Es vq42 ((l58 a0 vq27 vq32 vq37 vq42)) hq42.cells sz56 rfl rfl (Ow hq42) rfl rfl (by kernel_rfl)) rfl ?_ ?_)
 rintro _ _ _ - ⟨rfl, rfl⟩
 refine ⟨(Sl rfl), ?_⟩
 refine Ti (Tc (Sr (qu (a58_ a0 vq27 vq32 vq37 vq42) (La (cs := (l58 a0 vq27 vq32 vq37 vq42)) 0 ag58 sz58 rfl rfl rfl) (WL.f5 ?_))))
 have hq27 := hq27.mono (hle36.trans hle41)
 have hq32 := hq32.mono (hle36.trans hle41)
 refine We (Sg (v := (a58_ a0 vq27 vq32 vq37 vq42)) (vl := (l58 a0 vq27 vq32 vq37 vq42)) (arr' := (l58 a0 vq27 vq32 vq37 vq42)) rfl sz58 rfl rfl (onesOf (Oc rfl (Oc rfl (Oc rfl (Oc rfl (Oc rfl (Oc rfl (Oc rfl (Oc rfl (Oc rfl (Oc rfl (Oc rfl (Oc rfl (Oc rfl (Oc rfl (Oc (Ow hq27) (Oc (Ow hq32) (Oc (Ow hq37) (Oc (Ow hq42) Oz))))))))))))))))))) rfl rfl (by kernel_rfl)) rfl ?_
 rintro _ _ _ - ⟨rfl, rfl⟩
 exact Nt (Cr (Qa (Dr (Qa (Qb (WQ.f3 (WQ.f4 (WQ.f4 (Rd h [cq27, cq32, cq37, cq42] (fun _ hs => hs.drop) (resultsL1 rfl (Rc (cs := (l58 a0 vq27 vq32 vq37 vq42)) 0 ag58 sz58 rfl rfl rfl)) (((hle26.trans hle31).trans hle36).trans hle41) ⟨vq27, cq27, vq32, cq32, vq37, cq37, vq42, cq42, rfl, rfl, hq27, hq32, hq37, hq42⟩)))))))))
 exact Tz
 exact Tz
 exact Tz
 exact Tz
 exact Tz
 exact Tz
 exact Tz
 exact Tz

noncomputable def f_batch_Of_l0 (a2 : (List T_api_Record)) (s_ : (Int × (List T_api_Record))) : Option ((Int × (List T_api_Record)) ⊕ (List T_api_Record)) :=
  match s_ with
  | (x26, x27) =>
    (if (decide (x26 < (a2.length : Int))) = true then (grd (0 ≤ x26 ∧ x26 < a2.length) ((f_batch_one (rd a2 x26)).bind fun r38 => (grd (x27.length + [r38].length ≤ 274877906944) (some (Sum.inl (IntKind.i64.wrap (x26 + (1 : Int)), x27 ++ [r38])))))) else (some (Sum.inr x27)))
noncomputable def f_batch_Of (a0 : Int) (a1 : Int) (a2 : (List T_api_Record)) : Option T_api_Batch :=
  ((((iter (f_batch_Of_l0 a2) ((0 : Int), [])).bind (fun (x28 : (List T_api_Record)) => (some x28))) : Option (List T_api_Record)).bind fun x23 => (some (⟨a0, a1, x23⟩ : T_api_Batch)))
def f_batch_Of_post (a0 : Int) (a1 : Int) (a2 : (List T_api_Record)) (v2 : Value) : T_api_Batch → Value → IM → HL → Prop :=
  fun (r0 : T_api_Batch) (v : Value) (M' : IM) (H' : HL) => ∃ vz0_2 cz0_2, (.agg #[(.int .i64 r0.Term), (.int .i64 r0.Base), vz0_2]) = v ∧ H' = [cz0_2] ∧ OwnS kd_api_Record M' vz0_2 r0.Records cz0_2
theorem f_batch_Of_ok (a0 : Int) (a1 : Int) (a2 : (List T_api_Record)) (M : IM) (v2 : Value) (h2 : RS kd_api_Record M v2 a2) (res : T_api_Batch) (h : f_batch_Of a0 a1 a2 = some res) :
    Tri Tryz.prog 80 #[(Iv a0), (Iv a1), v2] M [] (f_batch_Of_post a0 a1 a2 v2 res) := by
 unfold f_batch_Of at h
 refine Te Tryz.func80 rfl rfl ?_
 intro F ρ hρ
 refine Sr (We (Al ze55 rfl) rfl ?_)
 rintro _ _ _ - ⟨rfl, g21, rfl, rfl⟩
 refine Ns (qM (Iv a0) (hρ 0) (qM (Iv a1) (hρ 1) (qu (.agg #[(Iv a0), (Iv a1), Zs]) (Bl (cl := [(Iv a0), (Iv a1), Zs]) ze55 fp55 (Pc (Iv a0) rfl rfl (Pc (Iv a1) rfl rfl Pz)) rfl) (We (Al ze55 rfl) rfl ?_))))
 rintro _ _ _ - ⟨rfl, g22, rfl, rfl⟩
 refine We (Sg (v := (.agg #[(Iv a0), (Iv a1), Zs])) (vl := [(Iv a0), (Iv a1), Zs]) (arr' := [(Iv a0), (Iv a1), Zs]) rfl sz55 rfl rfl (onb rfl) rfl rfl rfl) rfl ?_
 rintro _ _ _ - ⟨rfl, rfl⟩
 refine Nt ?_
 obtain ⟨x23, hj24, h⟩ := bnd h
 refine Jf (fun (x23 : (List T_api_Record)) ρ' M' H' => ∃ vx23 cx23, M.le M' ∧ [(g22, .cells #[(Iv a0), (Iv a1), vx23] 55 (0, 0))] :: [(g21, .cells #[(Iv 0), (Iv 0), Zs] 55 (0, 0))] :: cx23 :: F = H' ∧ ρ' 6 = (pt g21 0) ∧ ρ' 7 = (pt g22 0) ∧ OwnS kd_api_Record M' vx23 x23 cx23) x23 ?_ ?_
 have h := hj24
 refine Sr (qM v2 (hρ 2) (qu (Iv (a2.length : Int)) (PO.lenS Tryz.underlying53 rfl h2.len) (qm (Iv 0) (Nt (Bk (WC.e0 (WC.f2 (WC.f2 ?_))))))))
 obtain ⟨e25, he25, hK25⟩ := bnd h
 clear h
 refine WC.loop he25 (fun (p_ : (Int × (List T_api_Record))) ρ' M' H' => match p_ with | (x26, x27) => ∃ vx27 cx27, M.le M' ∧ [(g22, .cells #[(Iv a0), (Iv a1), vx27] 55 (0, 0))] :: [(g21, .cells #[(Iv 0), (Iv 0), Zs] 55 (0, 0))] :: cx27 :: F = H' ∧ ρ' 6 = (pt g21 0) ∧ ρ' 7 = (pt g22 0) ∧ ρ' 13 = v2 ∧ ρ' 14 = (Iv (a2.length : Int)) ∧ ρ' 15 = (Iv x26) ∧ OwnS kd_api_Record M' vx27 x27 cx27) ?_ ?_
 exact ⟨Zs, [], lr, rfl, rfl, rfl, rfl, rfl, rfl, (OwnS.nil _ _)⟩
 rintro ⟨x26, x27⟩ o25 ρ25 M25 H25 h ⟨vx27, cx27, hle25, rfl, hs25_6, hs25_7, hs25_13, hs25_14, hs25_15, hx27⟩
 unfold f_batch_Of_l0 at h
 refine Sr (qu (Bv (decide (x26 < (a2.length : Int)))) (PO.lss hs25_15 hs25_14) (Nt (Cs (Cd (b := decide (x26 < (a2.length : Int))) rfl (fun hb29 => ?_) (fun hb29 => ?_)))))
 have h := ite_t hb29 h
 refine Ck (Tc (Cs (Bk (Sr ?_))))
 obtain ⟨hg30, h⟩ := grd_i h
 have h2 := h2.mono hle25
 obtain ⟨p31, cs32, hat33, hrc34, hhas35⟩ := h2.at hg30.1 hg30.2 (by decide)
 obtain ⟨vw36_14, vw36_15, vw36_16, vw36_17, rfl, hw36_14, hw36_15, hw36_16, hw36_17⟩ := kd_api_Record_open hrc34
 refine qu (.pointer (some p31)) (PO.indexAddr (n := a2.length) Tryz.underlying53 sz58 hs25_13 hs25_15 hg30.1 hg30.2 hat33) (qu (a58_ (rd a2 x26) vw36_14 vw36_15 vw36_16 vw36_17) (PO.loadMA (cs := (l58 (rd a2 x26) vw36_14 vw36_15 vw36_16 vw36_17)) ag58 sz58 rfl hhas35) (We (Al ze58 rfl) rfl ?_))
 rintro _ _ _ - ⟨rfl, g37, rfl, rfl⟩
 refine We (Sg (v := (a58_ (rd a2 x26) vw36_14 vw36_15 vw36_16 vw36_17)) (vl := (l58 (rd a2 x26) vw36_14 vw36_15 vw36_16 vw36_17)) (arr' := (l58 (rd a2 x26) vw36_14 vw36_15 vw36_16 vw36_17)) rfl sz58 rfl rfl (onesOf (Oc rfl (Oc rfl (Oc rfl (Oc rfl (Oc rfl (Oc rfl (Oc rfl (Oc rfl (Oc rfl (Oc rfl (Oc rfl (Oc rfl (Oc rfl (Oc rfl (Oc (RS.one hw36_14) (Oc (RS.one hw36_15) (Oc (RS.one hw36_16) (Oc (RS.one hw36_17) Oz))))))))))))))))))) rfl rfl (by kernel_rfl)) rfl ?_
 rintro _ _ _ - ⟨rfl, rfl⟩
 refine Nt (WC.draw [0, 1, 0, 4, 12, 31, 63, 127] (.pure 0 (.pure 1 (.pure 2 (.alt 3 (.alt 4 (.alt 5 (.pure 6 (.alt 7 .done .none)) .none) .none) .none)))) mixed (by kernel_rfl) (qt (pt g22 2) rfl (Fa fo55_2 hs25_7 rfl) (qt vx27 rfl (Lb 1 pl53 rfl rfl rfl) (qt (a58_ (rd a2 x26) vw36_14 vw36_15 vw36_16 vw36_17) rfl (La (cs := (l58 (rd a2 x26) vw36_14 vw36_15 vw36_16 vw36_17)) 0 ag58 sz58 rfl rfl rfl) ?_))))
 obtain ⟨r38, hr39, h⟩ := bnd h
 refine Ta rfl (Ca co121 (f_batch_one_ok (rd a2 x26) _ _ _ _ _ hw36_14 hw36_15 hw36_16 hw36_17 r38 hr39) (args1 rfl)) rfl ?_ ?_
 rintro _ M40 _ hle41 ⟨_, ⟨vq42_14, cq42_14, vq42_15, cq42_15, vq42_16, cq42_16, vq42_17, cq42_17, rfl, rfl, hq42_14, hq42_15, hq42_16, hq42_17⟩, rfl⟩
 refine ⟨(Sk 1 rfl (Ss rfl (Lb 5 pl53 rfl rfl rfl) rfl (Ss rfl (Fa fo55_2 hs25_7 rfl) rfl trivial))), ?_⟩
 refine WT.a4 (WT.know (fun _ hs => hq42_14.rs hs) (fun hf47 => ?_))
 refine WT.freeze (fun hle46 => ?_)
 have hq42_15 := hq42_15.mono hle46
 refine WT.know (fun _ hs => hq42_15.rs hs) (fun hf52 => ?_)
 refine WT.freeze (fun hle51 => ?_)
 have hq42_16 := hq42_16.mono (hle46.trans hle51)
 refine WT.know (fun _ hs => hq42_16.rs hs) (fun hf57 => ?_)
 refine WT.freeze (fun hle56 => ?_)
 have hq42_17 := hq42_17.mono ((hle46.trans hle51).trans hle56)
 refine WT.know (fun _ hs => hq42_17.rs hs) (fun hf62 => ?_)
 refine WT.freeze (fun hle61 => ?_)
 refine Ta rfl (EO.buildSliceL (cl := (l58 r38 vq42_14 vq42_15 vq42_16 vq42_17)) Tryz.underlying53 iz58 rfl (Pc (a58_ r38 vq42_14 vq42_15 vq42_16 vq42_17) rfl rfl Pz) rfl) rfl ?_ ?_
 rintro _ _ _ - ⟨rfl, g63, rfl, rfl⟩
 have hf47 := hf47.mono ((hle51.trans hle56).trans hle61)
 have hf52 := hf52.mono (hle56.trans hle61)
 have hf57 := hf57.mono hle61
 have h65 : OwnS kd_api_Record ((((M40.add cq42_14).add cq42_15).add cq42_16).add cq42_17) (.slice (some ⟨g63, 0, none⟩) 1 1) [r38] [(g63, .cells (l58 r38 vq42_14 vq42_15 vq42_16 vq42_17).toArray 58 (0, 0))] := OwnS.rows (css := [(l58 r38 vq42_14 vq42_15 vq42_16 vq42_17)]) (Rows.cons (kd_api_Record_mk (x := r38) hf47 hf52 hf57 hf62) Rows.nil) rfl rfl
 refine ⟨(Sk 1 rfl (Ss rfl (Lb 2 pl53 rfl rfl rfl) rfl (Ss rfl (Fa fo55_2 hs25_7 rfl) rfl trivial))), ?_⟩
 obtain ⟨hg69, h⟩ := grd_i h
 refine WT.f4 ?_
 have hx27 := hx27.mono ((((hle41.trans hle46).trans hle51).trans hle56).trans hle61)
 refine Ta rfl (EO.append (dd := kd_api_Record) (xs := x27) (ys := [r38]) Tryz.underlying53 Tryz.underlying53 in58 rfl (appB (by decide) hg69) (by decide) rfl rfl hx27 (h65.src 1 rfl)) rfl ?_ ?_
 rintro v68 _ _ - ⟨rfl, c66, rfl, h67⟩
 refine ⟨(Sl rfl), ?_⟩
 refine qt (pt g22 2) rfl (Fa fo55_2 hs25_7 rfl) (WT.f3 (Ta rfl (Es v68 [(Iv a0), (Iv a1), v68] h67.cells sz53 rfl rfl (Ow h67) rfl rfl rfl) rfl ?_ ?_))
 rintro _ _ _ - ⟨rfl, rfl⟩
 refine ⟨(Sl rfl), ?_⟩
 refine Ti (Bn (Tc (Cg (qu (Iv (IntKind.i64.wrap (x26 + 1))) (PO.add hs25_15 rfl) (qm (Iv (IntKind.i64.wrap (x26 + 1))) (Wz (Qb (Dr (Qb (Dr (Qa ?_)))))))))))
 exact Qb (Qb (WQ.again (IntKind.i64.wrap (x26 + 1), x27 ++ [r38]) (oi h).symm ⟨v68, c66, (((((hle25.trans hle41).trans hle46).trans hle51).trans hle56).trans hle61), rfl, hs25_6, hs25_7, hs25_13, hs25_14, rfl, h67⟩))
 exact Tz
 exact Tz
 exact Tz
 exact Tz
 have h := ite_f hb29 h
 refine WC.exit (WQ.thenE (WQ.leaveE x27 (oi h).symm (fun heq25 => ?_)))
 subst heq25
 have h := hK25
 refine WQ.blockH ?_
 obtain rfl := oi h
 exact Tj ⟨vx27, cx27, hle25, rfl, hs25_6, hs25_7, hx27⟩
 rintro ρ24 M24 H24 ⟨vx23, cx23, hle24, rfl, hs24_6, hs24_7, hx23⟩
 refine Sr (qu (.agg #[(Iv a0), (Iv a1), vx23]) (La (cs := [(Iv a0), (Iv a1), vx23]) 0 ag55 sz55 hs24_7 rfl rfl) (WL.f1 (We (Sg (v := (.agg #[(Iv a0), (Iv a1), vx23])) (vl := [(Iv a0), (Iv a1), vx23]) (arr' := [(Iv a0), (Iv a1), vx23]) rfl sz55 hs24_6 rfl (onesOf (Oc rfl (Oc rfl (Oc (Ow hx23) Oz)))) rfl rfl rfl) rfl ?_)))
 rintro _ _ _ - ⟨rfl, rfl⟩
 exact Nt (Cr (Qa (Dr (Rd h [cx23] (fun _ hs => hs.drop) (resultsL1 rfl (Rc (cs := [(Iv a0), (Iv a1), vx23]) 0 ag55 sz55 hs24_6 rfl rfl)) hle24 ⟨vx23, cx23, rfl, rfl, hx23⟩))))

noncomputable def f_batch_Copy (a0 : T_api_Batch) : Option T_api_Batch :=
  ((f_batch_Of a0.Term a0.Base a0.Records).bind fun r23 => (some r23))
def f_batch_Copy_post (a0 : T_api_Batch) (v0_2 : Value) : T_api_Batch → Value → IM → HL → Prop :=
  fun (r0 : T_api_Batch) (v : Value) (M' : IM) (H' : HL) => ∃ vz0_2 cz0_2, (.agg #[(.int .i64 r0.Term), (.int .i64 r0.Base), vz0_2]) = v ∧ H' = [cz0_2] ∧ OwnS kd_api_Record M' vz0_2 r0.Records cz0_2
theorem f_batch_Copy_ok (a0 : T_api_Batch) (M : IM) (v0_2 : Value) (h0_2 : RS kd_api_Record M v0_2 a0.Records) (res : T_api_Batch) (h : f_batch_Copy a0 = some res) :
    Tri Tryz.prog 55 #[(a55_ a0 v0_2)] M [] (f_batch_Copy_post a0 v0_2 res) := by
 unfold f_batch_Copy at h
 refine Te Tryz.func55 rfl rfl ?_
 intro F ρ hρ
 refine Sr (We (EO.box (cs := (l55 a0 v0_2).toArray) (congrArg Value.cells (asE (a55_ a0 v0_2) (hρ 0)))) rfl ?_)
 rintro _ _ _ - ⟨rfl, g21, rfl, rfl⟩
 refine We (Al ze55 rfl) rfl ?_
 rintro _ _ _ - ⟨rfl, g22, rfl, rfl⟩
 refine Ns (qu (pt g21 0) (Fa fo55_0 rfl rfl) (qu (Iv a0.Term) (Lb 1 pl3 rfl rfl rfl) (qu (pt g21 1) (Fa fo55_1 rfl rfl) (qu (Iv a0.Base) (Lb 1 pl3 rfl rfl rfl) (qu (pt g21 2) (Fa fo55_2 rfl rfl) (qu v0_2 (Lb 1 pl53 rfl rfl rfl) ?_))))))
 obtain ⟨r23, hr24, h⟩ := bnd h
 refine We (Ca co80 (f_batch_Of_ok a0.Term a0.Base a0.Records _ _ h0_2 r23 hr24) (args3 rfl rfl rfl)) rfl ?_
 rintro _ M25 _ hle26 ⟨_, ⟨vq27_2, cq27_2, rfl, rfl, hq27_2⟩, rfl⟩
 refine WL.a1 (WL.f1 (We (Sg (v := (a55_ r23 vq27_2)) (vl := (l55 r23 vq27_2)) (arr' := (l55 r23 vq27_2)) rfl sz55 rfl rfl (onesOf (Oc rfl (Oc rfl (Oc (Ow hq27_2) Oz)))) rfl rfl rfl) rfl ?_))
 rintro _ _ _ - ⟨rfl, rfl⟩
 exact Nt (Cr (Qb (Dr (Rd h [cq27_2] (fun _ hs => hs.drop) (resultsL1 rfl (Rc (cs := (l55 r23 vq27_2)) 0 ag55 sz55 rfl rfl rfl)) hle26 ⟨vq27_2, cq27_2, rfl, rfl, hq27_2⟩))))

noncomputable def f_rpc_Copy_l0 (a0 : T_api_Rpc) (s_ : ((List T_api_Batch) × Int)) : Option (((List T_api_Batch) × Int) ⊕ (List T_api_Batch)) :=
  match s_ with
  | (x31, x32) =>
    (if (decide (x32 < (a0.Batches.length : Int))) = true then (grd (0 ≤ x32 ∧ x32 < a0.Batches.length) ((f_batch_Copy (rd a0.Batches x32)).bind fun r43 => (grd (x31.length + [r43].length ≤ 274877906944) (some (Sum.inl (x31 ++ [r43], IntKind.i64.wrap (x32 + (1 : Int)))))))) else (some (Sum.inr x31)))
noncomputable def f_rpc_Copy (a0 : T_api_Rpc) : Option T_api_Rpc :=
  ((f_slices_Clone_byte_byte a0.Data).bind fun r23 => ((((iter (f_rpc_Copy_l0 a0) ([], (0 : Int))).bind (fun (x33 : (List T_api_Batch)) => (some x33))) : Option (List T_api_Batch)).bind fun x28 => (some (⟨a0.Kind, a0.From, a0.To, a0.Term, a0.Pre, a0.Ok, a0.Leader, a0.At, a0.AtTerm, a0.High, a0.Code, x28, a0.Size, a0.Pos, r23⟩ : T_api_Rpc))))
def f_rpc_Copy_post (a0 : T_api_Rpc) (v0_11 v0_14 : Value) : T_api_Rpc → Value → IM → HL → Prop :=
  fun (r0 : T_api_Rpc) (v : Value) (M' : IM) (H' : HL) => ∃ vz0_11 cz0_11 vz0_14 cz0_14, (.agg #[(.int .i64 r0.Kind), (.int .i64 r0.From), (.int .i64 r0.To), (.int .i64 r0.Term), (.bool r0.Pre), (.bool r0.Ok), (.int .i64 r0.Leader), (.int .i64 r0.At), (.int .i64 r0.AtTerm), (.int .i64 r0.High), (.int .i64 r0.Code), vz0_11, (.int .i64 r0.Size), (.int .i64 r0.Pos), vz0_14]) = v ∧ H' = [cz0_11, cz0_14] ∧ OwnS kd_api_Batch M' vz0_11 r0.Batches cz0_11 ∧ OwnS (Kd.int .u8) M' vz0_14 r0.Data cz0_14
theorem f_rpc_Copy_ok (a0 : T_api_Rpc) (M : IM) (v0_11 v0_14 : Value) (h0_11 : RS kd_api_Batch M v0_11 a0.Batches) (h0_14 : RS (Kd.int .u8) M v0_14 a0.Data) (res : T_api_Rpc) (h : f_rpc_Copy a0 = some res) :
    Tri Tryz.prog 18 #[(a25_ a0 v0_11 v0_14)] M [] (f_rpc_Copy_post a0 v0_11 v0_14 res) := by
 unfold f_rpc_Copy at h
 refine Te Tryz.func18 rfl rfl ?_
 intro F ρ hρ
 refine Sr (We (EO.box (cs := (l25 a0 v0_11 v0_14).toArray) (congrArg Value.cells (asE (a25_ a0 v0_11 v0_14) (hρ 0)))) rfl ?_)
 rintro _ _ _ - ⟨rfl, g21, rfl, rfl⟩
 refine We (Al ze25 rfl) rfl ?_
 rintro _ _ _ - ⟨rfl, g22, rfl, rfl⟩
 refine Ns (qu (pt g21 14) (Fa fo25_14 rfl rfl) (qu v0_14 (Lb 1 pl23 rfl rfl rfl) ?_))
 obtain ⟨r23, hr24, h⟩ := bnd h
 refine We (Ca co54 (f_slices_Clone_byte_byte_ok a0.Data _ _ h0_14 r23 hr24) (args1 rfl)) rfl ?_
 rintro _ M25 _ hle26 ⟨_, ⟨vq27, cq27, rfl, rfl, hq27⟩, rfl⟩
 refine WL.a1 (qu (pt g21 14) (Fa fo25_14 rfl rfl) (Wb (We (Es vq27 ((l25 a0 v0_11 vq27)) hq27.cells sz23 rfl rfl (Ow hq27) rfl rfl (by kernel_rfl)) rfl ?_)))
 rintro _ _ _ - ⟨rfl, rfl⟩
 refine Ns (qa Zs (Nt ?_))
 obtain ⟨x28, hj29, h⟩ := bnd h
 refine Jf (fun (x28 : (List T_api_Batch)) ρ' M' H' => ∃ vx28 cx28, M25.le M' ∧ [(g21, .cells (l25 a0 v0_11 vq27).toArray 25 (0, 0))] :: [(g22, .cells z25_.toArray 25 (0, 0))] :: cx28 :: cq27 :: F = H' ∧ ρ' 1 = (pt g21 0) ∧ ρ' 2 = (pt g22 0) ∧ ρ' 3 = vx28 ∧ OwnS kd_api_Batch M' vx28 x28 cx28) x28 ?_ ?_
 have h := hj29
 refine Sr (qu (pt g21 11) (Fa fo25_11 rfl rfl) (qu v0_11 (Lb 0 pl22 rfl rfl rfl) ?_))
 have h0_11 := h0_11.mono hle26
 refine qu (Iv (a0.Batches.length : Int)) (PO.lenS Tryz.underlying22 rfl h0_11.len) (qm (Iv 0) (Nt (Bk (WC.e0 (WC.f2 (WC.f1 (WC.f3 (WC.f3 ?_))))))))
 obtain ⟨e30, he30, hK30⟩ := bnd h
 clear h
 refine WC.loop he30 (fun (p_ : ((List T_api_Batch) × Int)) ρ' M' H' => match p_ with | (x31, x32) => ∃ vx31 cx31, M25.le M' ∧ [(g21, .cells (l25 a0 v0_11 vq27).toArray 25 (0, 0))] :: [(g22, .cells z25_.toArray 25 (0, 0))] :: cx31 :: cq27 :: F = H' ∧ ρ' 1 = (pt g21 0) ∧ ρ' 2 = (pt g22 0) ∧ ρ' 3 = vx31 ∧ ρ' 11 = v0_11 ∧ ρ' 12 = (Iv (a0.Batches.length : Int)) ∧ ρ' 13 = (Iv x32) ∧ OwnS kd_api_Batch M' vx31 x31 cx31) ?_ ?_
 exact ⟨Zs, [], lr, rfl, rfl, rfl, rfl, rfl, rfl, rfl, (OwnS.nil _ _)⟩
 rintro ⟨x31, x32⟩ o30 ρ30 M30 H30 h ⟨vx31, cx31, hle30, rfl, hs30_1, hs30_2, hs30_3, hs30_11, hs30_12, hs30_13, hx31⟩
 unfold f_rpc_Copy_l0 at h
 refine Sr (qu (Bv (decide (x32 < (a0.Batches.length : Int)))) (PO.lss hs30_13 hs30_12) (Nt (Cs (Cd (b := decide (x32 < (a0.Batches.length : Int))) rfl (fun hb34 => ?_) (fun hb34 => ?_)))))
 have h := ite_t hb34 h
 refine Ck (Tc (Cs (Bk (Sr ?_))))
 obtain ⟨hg35, h⟩ := grd_i h
 have h0_11 := h0_11.mono hle30
 obtain ⟨p36, cs37, hat38, hrc39, hhas40⟩ := h0_11.at hg35.1 hg35.2 (by decide)
 obtain ⟨vw41_2, rfl, hw41_2⟩ := kd_api_Batch_open hrc39
 refine qu (.pointer (some p36)) (PO.indexAddr (n := a0.Batches.length) Tryz.underlying22 sz55 hs30_11 hs30_13 hg35.1 hg35.2 hat38) (qu (a55_ (rd a0.Batches x32) vw41_2) (PO.loadMA (cs := (l55 (rd a0.Batches x32) vw41_2)) ag55 sz55 rfl hhas40) (We (Al ze55 rfl) rfl ?_))
 rintro _ _ _ - ⟨rfl, g42, rfl, rfl⟩
 refine We (Sg (v := (a55_ (rd a0.Batches x32) vw41_2)) (vl := (l55 (rd a0.Batches x32) vw41_2)) (arr' := (l55 (rd a0.Batches x32) vw41_2)) rfl sz55 rfl rfl (onesOf (Oc rfl (Oc rfl (Oc (RS.one hw41_2) Oz)))) rfl rfl rfl) rfl ?_
 rintro _ _ _ - ⟨rfl, rfl⟩
 refine Nt (Cg (qM vx31 hs30_3 (qu (a55_ (rd a0.Batches x32) vw41_2) (La (cs := (l55 (rd a0.Batches x32) vw41_2)) 0 ag55 sz55 rfl rfl rfl) ?_)))
 obtain ⟨r43, hr44, h⟩ := bnd h
 refine We (Ca co55 (f_batch_Copy_ok (rd a0.Batches x32) _ _ hw41_2 r43 hr44) (args1 rfl)) rfl ?_
 rintro _ M45 _ hle46 ⟨_, ⟨vq47_2, cq47_2, rfl, rfl, hq47_2⟩, rfl⟩
 refine WL.a1 (WL.know (fun _ hs => hq47_2.rs hs) (fun hf52 => ?_))
 refine WL.freeze (fun hle51 => ?_)
 refine We (EO.buildSliceL (cl := (l55 r43 vq47_2)) Tryz.underlying22 iz55 rfl (Pc (a55_ r43 vq47_2) rfl rfl Pz) rfl) rfl ?_
 rintro _ _ _ - ⟨rfl, g53, rfl, rfl⟩
 have h55 : OwnS kd_api_Batch (M45.add cq47_2) (.slice (some ⟨g53, 0, none⟩) 1 1) [r43] [(g53, .cells (l55 r43 vq47_2).toArray 55 (0, 0))] := OwnS.rows (css := [(l55 r43 vq47_2)]) (Rows.cons (kd_api_Batch_mk (x := r43) hf52) Rows.nil) rfl rfl
 obtain ⟨hg59, h⟩ := grd_i h
 refine WL.f4 ?_
 have hx31 := hx31.mono (hle46.trans hle51)
 refine We (EO.append (dd := kd_api_Batch) (xs := x31) (ys := [r43]) Tryz.underlying22 Tryz.underlying22 in55 rfl (appB (by decide) hg59) (by decide) rfl rfl hx31 (h55.src 1 rfl)) rfl ?_
 rintro v58 _ _ - ⟨rfl, c56, rfl, h57⟩
 refine qa v58 (Wz (Bn (Tc (Cg (qu (Iv (IntKind.i64.wrap (x32 + 1))) (PO.add hs30_13 rfl) (qm (Iv (IntKind.i64.wrap (x32 + 1))) (Wz (Qa (Dr (Qa (Dr ?_)))))))))))
 exact WQ.f3 (Qa (WQ.f3 (WQ.f3 (WQ.again (x31 ++ [r43], IntKind.i64.wrap (x32 + 1)) (oi h).symm ⟨v58, c56, ((hle30.trans hle46).trans hle51), rfl, hs30_1, hs30_2, rfl, hs30_11, hs30_12, rfl, h57⟩))))
 have h := ite_f hb34 h
 refine WC.exit (WQ.thenE (WQ.leaveE x31 (oi h).symm (fun heq30 => ?_)))
 subst heq30
 have h := hK30
 refine WQ.blockH ?_
 obtain rfl := oi h
 exact Tj ⟨vx31, cx31, hle30, rfl, hs30_1, hs30_2, hs30_3, hx31⟩
 rintro ρ29 M29 H29 ⟨vx28, cx28, hle29, rfl, hs29_1, hs29_2, hs29_3, hx28⟩
 refine Sr (qM vx28 hs29_3 (qu (pt g21 11) (Fa fo25_11 hs29_1 rfl) (We (Es vx28 ((l25 a0 vx28 vq27)) hx28.cells sz22 rfl rfl (Ow hx28) rfl rfl (by kernel_rfl)) rfl ?_)))
 rintro _ _ _ - ⟨rfl, rfl⟩
 refine Ns (qu (a25_ a0 vx28 vq27) (La (cs := (l25 a0 vx28 vq27)) 0 ag25 sz25 hs29_1 rfl rfl) (WL.f1 ?_))
 have hq27 := hq27.mono hle29
 refine We (Sg (v := (a25_ a0 vx28 vq27)) (vl := (l25 a0 vx28 vq27)) (arr' := (l25 a0 vx28 vq27)) rfl sz25 hs29_2 rfl (onesOf (Oc rfl (Oc rfl (Oc rfl (Oc rfl (Oc rfl (Oc rfl (Oc rfl (Oc rfl (Oc rfl (Oc rfl (Oc rfl (Oc (Ow hx28) (Oc rfl (Oc rfl (Oc (Ow hq27) Oz)))))))))))))))) rfl rfl (by kernel_rfl)) rfl ?_
 rintro _ _ _ - ⟨rfl, rfl⟩
 exact Nt (Cr (Qa (Dr (Rd h [cx28, cq27] (fun _ hs => hs.drop) (resultsL1 rfl (Rc (cs := (l25 a0 vx28 vq27)) 0 ag25 sz25 hs29_2 rfl rfl)) (hle26.trans hle29) ⟨vx28, cx28, vq27, cq27, rfl, rfl, hx28, hq27⟩))))

noncomputable def f_law07_works : Option Bool :=
  ((f_rpc_Put lit1_).bind fun (r33, r34) => ((f_rpc_Read r33).bind fun (r46, r47) => ((f_rpc_Read (⟨(9 : Int), []⟩ : T_api_Frame)).bind fun (r54, r55) => (((if r34.isNil = true then (if (decide (r33.Kind = (4 : Int))) = true then (if r47.isNil = true then ((f_rpc_Same r46 lit1_).bind fun r68 => (if r68 = true then ((f_fault_Is r55 (5 : Int)).bind fun r83 => (if r83 = true then ((f_rpc_Check lit1_).bind fun r89 => (if r89.isNil = true then ((f_rpc_Check (⟨(1 : Int), (1 : Int), (1 : Int), (0 : Int), false, false, (0 : Int), (0 : Int), (0 : Int), (0 : Int), (0 : Int), [], (0 : Int), (0 : Int), []⟩ : T_api_Rpc)).bind fun r98 => ((f_fault_Is r98 (2 : Int)).bind fun r103 => (if r103 = true then ((f_rpc_Copy lit1_).bind fun r111 => ((f_rpc_Same lit1_ r111).bind fun r116 => (if r116 = true then ((f_rpc_Same lit1_ lit4_).bind fun r128 => (some (!r128, [lit2_]))) else (some (false, [lit2_]))))) else (some (false, [lit2_]))))) else (some (false, [lit2_])))) else (some (false, [lit2_])))) else (some (false, [lit2_])))) else (some (false, [lit2_]))) else (some (false, [lit2_]))) else (some (false, [lit2_]))) : Option (Bool × (List T_api_Batch))).bind fun (x62, x63) => (some x62)))))
def f_law07_works_post : Bool → Value → IM → HL → Prop :=
  fun (r0 : Bool) (v : Value) (M' : IM) (H' : HL) => (.bool r0) = v ∧ H' = []
theorem f_law07_works_ok (M : IM) (hE : Env M) (res : Bool) (h : f_law07_works = some res) :
    Tri Tryz.prog 9 #[] M [] (f_law07_works_post res) := by
 unfold f_law07_works at h
 refine Te Tryz.func9 rfl rfl ?_
 intro F ρ hρ
 refine Sr (qa (Bv false) (Ns (qu (.agg #[(Iv 1), (Iv 0), (Iv 0), (Iv 0), (Iv 0), (Iv 0), (Iv 0), (Iv 0), (Iv 0), (Bv false), (Sv ⟨#[]⟩), (Sv ⟨#[]⟩), (Sv ⟨#[]⟩), (Sv ⟨#[]⟩), Zs, Zs, Zs, Zs]) (Bl (cl := [(Iv 1), (Iv 0), (Iv 0), (Iv 0), (Iv 0), (Iv 0), (Iv 0), (Iv 0), (Iv 0), (Bv false), (Sv ⟨#[]⟩), (Sv ⟨#[]⟩), (Sv ⟨#[]⟩), (Sv ⟨#[]⟩), Zs, Zs, Zs, Zs]) ze58 fp58 (Pc (Iv 1) rfl rfl Pz) rfl) (We (EO.buildSliceL (cl := [(Iv 1), (Iv 0), (Iv 0), (Iv 0), (Iv 0), (Iv 0), (Iv 0), (Iv 0), (Iv 0), (Bv false), (Sv ⟨#[]⟩), (Sv ⟨#[]⟩), (Sv ⟨#[]⟩), (Sv ⟨#[]⟩), Zs, Zs, Zs, Zs]) Tryz.underlying53 iz58 rfl (Pc (.agg #[(Iv 1), (Iv 0), (Iv 0), (Iv 0), (Iv 0), (Iv 0), (Iv 0), (Iv 0), (Iv 0), (Bv false), (Sv ⟨#[]⟩), (Sv ⟨#[]⟩), (Sv ⟨#[]⟩), (Sv ⟨#[]⟩), Zs, Zs, Zs, Zs]) rfl rfl Pz) rfl) rfl ?_))))
 rintro _ _ _ - ⟨rfl, g21, rfl, rfl⟩
 have h23 : OwnS kd_api_Record M (.slice (some ⟨g21, 0, none⟩) 1 1) [lit3_] [(g21, .cells #[(Iv 1), (Iv 0), (Iv 0), (Iv 0), (Iv 0), (Iv 0), (Iv 0), (Iv 0), (Iv 0), (Bv false), (Sv ⟨#[]⟩), (Sv ⟨#[]⟩), (Sv ⟨#[]⟩), (Sv ⟨#[]⟩), Zs, Zs, Zs, Zs] 58 (0, 0))] := OwnS.rows (css := [[(Iv 1), (Iv 0), (Iv 0), (Iv 0), (Iv 0), (Iv 0), (Iv 0), (Iv 0), (Iv 0), (Bv false), (Sv ⟨#[]⟩), (Sv ⟨#[]⟩), (Sv ⟨#[]⟩), (Sv ⟨#[]⟩), Zs, Zs, Zs, Zs]]) (Rows.cons (kd_api_Record_mk (x := lit3_) (RS.nil _ _) (RS.nil _ _) (RS.nil _ _) (RS.nil _ _)) Rows.nil) rfl rfl
 refine qu (.agg #[(Iv 3), (Iv 6), (.slice (some ⟨g21, 0, none⟩) 1 1)]) (Bl (cl := [(Iv 3), (Iv 6), (.slice (some ⟨g21, 0, none⟩) 1 1)]) ze55 fp55 (Pc (Iv 3) rfl rfl (Pc (Iv 6) rfl rfl (Parts.cons ((congrArg Value.cells (show ev _ _ = (.slice (some ⟨g21, 0, none⟩) 1 1) from rfl)).trans h23.cells) Pz))) rfl) (WL.know (fun _ hs => h23.rs hs) (fun hf28 => ?_))
 refine WL.freeze (fun hle27 => ?_)
 refine We (EO.buildSliceL (cl := [(Iv 3), (Iv 6), (.slice (some ⟨g21, 0, none⟩) 1 1)]) Tryz.underlying22 iz55 rfl (Pc (.agg #[(Iv 3), (Iv 6), (.slice (some ⟨g21, 0, none⟩) 1 1)]) rfl rfl Pz) rfl) rfl ?_
 rintro _ _ _ - ⟨rfl, g29, rfl, rfl⟩
 have h31 : OwnS kd_api_Batch (M.add [(g21, .cells #[(Iv 1), (Iv 0), (Iv 0), (Iv 0), (Iv 0), (Iv 0), (Iv 0), (Iv 0), (Iv 0), (Bv false), (Sv ⟨#[]⟩), (Sv ⟨#[]⟩), (Sv ⟨#[]⟩), (Sv ⟨#[]⟩), Zs, Zs, Zs, Zs] 58 (0, 0))]) (.slice (some ⟨g29, 0, none⟩) 1 1) [lit2_] [(g29, .cells #[(Iv 3), (Iv 6), (.slice (some ⟨g21, 0, none⟩) 1 1)] 55 (0, 0))] := OwnS.rows (css := [[(Iv 3), (Iv 6), (.slice (some ⟨g21, 0, none⟩) 1 1)]]) (Rows.cons (kd_api_Batch_mk (x := lit2_) hf28) Rows.nil) rfl rfl
 refine qu (.agg #[(Iv 4), (Iv 1), (Iv 2), (Iv 3), (Bv false), (Bv false), (Iv 1), (Iv 5), (Iv 2), (Iv 4), (Iv 0), (.slice (some ⟨g29, 0, none⟩) 1 1), (Iv 0), (Iv 0), Zs]) (Bl (cl := [(Iv 4), (Iv 1), (Iv 2), (Iv 3), (Bv false), (Bv false), (Iv 1), (Iv 5), (Iv 2), (Iv 4), (Iv 0), (.slice (some ⟨g29, 0, none⟩) 1 1), (Iv 0), (Iv 0), Zs]) ze25 fp25 (Pc (Iv 4) rfl rfl (Pc (Iv 1) rfl rfl (Pc (Iv 2) rfl rfl (Pc (Iv 3) rfl rfl (Pc (Iv 1) rfl rfl (Pc (Iv 5) rfl rfl (Pc (Iv 2) rfl rfl (Pc (Iv 4) rfl rfl (Parts.cons ((congrArg Value.cells (show ev _ _ = (.slice (some ⟨g29, 0, none⟩) 1 1) from rfl)).trans h31.cells) Pz))))))))) rfl) (We (Al ze25 rfl) rfl ?_)
 rintro _ _ _ - ⟨rfl, g32, rfl, rfl⟩
 refine We (Sg (v := (.agg #[(Iv 4), (Iv 1), (Iv 2), (Iv 3), (Bv false), (Bv false), (Iv 1), (Iv 5), (Iv 2), (Iv 4), (Iv 0), (.slice (some ⟨g29, 0, none⟩) 1 1), (Iv 0), (Iv 0), Zs])) (vl := [(Iv 4), (Iv 1), (Iv 2), (Iv 3), (Bv false), (Bv false), (Iv 1), (Iv 5), (Iv 2), (Iv 4), (Iv 0), (.slice (some ⟨g29, 0, none⟩) 1 1), (Iv 0), (Iv 0), Zs]) (arr' := [(Iv 4), (Iv 1), (Iv 2), (Iv 3), (Bv false), (Bv false), (Iv 1), (Iv 5), (Iv 2), (Iv 4), (Iv 0), (.slice (some ⟨g29, 0, none⟩) 1 1), (Iv 0), (Iv 0), Zs]) rfl sz25 rfl rfl (onesOf (Oc rfl (Oc rfl (Oc rfl (Oc rfl (Oc rfl (Oc rfl (Oc rfl (Oc rfl (Oc rfl (Oc rfl (Oc rfl (Oc (Ow h31) (Oc rfl (Oc rfl (Oc rfl Oz)))))))))))))))) rfl rfl (by kernel_rfl)) rfl ?_
 rintro _ _ _ - ⟨rfl, rfl⟩
 refine Ns (qu (.agg #[(Iv 4), (Iv 1), (Iv 2), (Iv 3), (Bv false), (Bv false), (Iv 1), (Iv 5), (Iv 2), (Iv 4), (Iv 0), (.slice (some ⟨g29, 0, none⟩) 1 1), (Iv 0), (Iv 0), Zs]) (La (cs := [(Iv 4), (Iv 1), (Iv 2), (Iv 3), (Bv false), (Bv false), (Iv 1), (Iv 5), (Iv 2), (Iv 4), (Iv 0), (.slice (some ⟨g29, 0, none⟩) 1 1), (Iv 0), (Iv 0), Zs]) 0 ag25 sz25 rfl rfl rfl) ?_)
 obtain ⟨⟨r33, r34⟩, hr35, h⟩ := bnd h
 refine WL.f1 (We (Cb co10 (Tri.lend h31.excl fun w0_ H0_ hs0_ => (f_rpc_Put_ok lit1_ _ _ _ (h31.rs hs0_) (RS.nil _ _) (r33, r34) hr35)) (args1 rfl)) rfl ?_)
 rintro _ _ _ hle37 ⟨_, ⟨Ml40, Hl41, hll42, rfl, rfl, ⟨vq38_1, cq38_1, rfl, rfl, hq38_1⟩⟩, rfl⟩
 have hq38_1 : OwnS (Kd.int .u8) (Ml40.minus [(g29, .cells #[(Iv 3), (Iv 6), (.slice (some ⟨g21, 0, none⟩) 1 1)] 55 (0, 0))]) vq38_1 r33.Body cq38_1 := hq38_1.any (Kd.int_flat _)
 refine WL.a2 (qm (.tuple #[(.agg #[(Iv r33.Kind), vq38_1]), (GV r34)]) (qu (.agg #[(Iv r33.Kind), vq38_1]) (Xt rfl rfl) (qu (GV r34) (Xt rfl rfl) (We (Al ze29 rfl) rfl ?_))))
 rintro _ _ _ - ⟨rfl, g43, rfl, rfl⟩
 refine We (Sg (v := (.agg #[(Iv r33.Kind), vq38_1])) (vl := [(Iv r33.Kind), vq38_1]) (arr' := [(Iv r33.Kind), vq38_1]) rfl sz29 rfl rfl (onesOf (Oc rfl (Oc (Ow hq38_1) Oz))) rfl rfl rfl) rfl ?_
 rintro _ _ _ - ⟨rfl, rfl⟩
 refine qa (GV r34) (Ns (qu (.agg #[(Iv r33.Kind), vq38_1]) (La (cs := [(Iv r33.Kind), vq38_1]) 0 ag29 sz29 rfl rfl rfl) (Wb (WL.know (fun _ hs => hq38_1.rs hs) (fun hf45 => ?_)))))
 refine WL.freeze (fun hle44 => ?_)
 obtain ⟨⟨r46, r47⟩, hr48, h⟩ := bnd h
 have hE := hE.mono ((hle27.trans hle37).trans hle44)
 refine We (Ca co11 (f_rpc_Read_ok r33 _ _ hf45 hE (r46, r47) hr48) (args1 rfl)) rfl ?_
 rintro _ M49 _ hle50 ⟨_, ⟨vq51_11, cq51_11, vq51_14, cq51_14, rfl, rfl, hq51_11, hq51_14⟩, rfl⟩
 have L50 := (hle37.trans hle44).trans hle50
 refine WL.a2 (qm (.tuple #[(a25_ r46 vq51_11 vq51_14), (GV r47)]) (qu (a25_ r46 vq51_11 vq51_14) (Xt rfl rfl) (qu (GV r47) (Xt rfl rfl) (We (Al ze25 rfl) rfl ?_))))
 rintro _ _ _ - ⟨rfl, g53, rfl, rfl⟩
 refine We (Sg (v := (a25_ r46 vq51_11 vq51_14)) (vl := (l25 r46 vq51_11 vq51_14)) (arr' := (l25 r46 vq51_11 vq51_14)) rfl sz25 rfl rfl (onesOf (Oc rfl (Oc rfl (Oc rfl (Oc rfl (Oc rfl (Oc rfl (Oc rfl (Oc rfl (Oc rfl (Oc rfl (Oc rfl (Oc (Ow hq51_11) (Oc rfl (Oc rfl (Oc (Ow hq51_14) Oz)))))))))))))))) rfl rfl (by kernel_rfl)) rfl ?_
 rintro _ _ _ - ⟨rfl, rfl⟩
 refine qa (GV r47) (Ns (qu (.agg #[(Iv 9), Zs]) (Bl (cl := [(Iv 9), Zs]) ze29 fp29 (Pc (Iv 9) rfl rfl Pz) rfl) ?_))
 obtain ⟨⟨r54, r55⟩, hr56, h⟩ := bnd h
 have hE := hE.mono hle50
 refine We (Ca co11 (f_rpc_Read_ok (⟨(9 : Int), []⟩ : T_api_Frame) _ _ (RS.nil _ _) hE (r54, r55) hr56) (args1 rfl)) rfl ?_
 rintro _ M57 _ hle58 ⟨_, ⟨vq59_11, cq59_11, vq59_14, cq59_14, rfl, rfl, hq59_11, hq59_14⟩, rfl⟩
 have L58 := L50.trans hle58
 refine WL.a2 (qm (.tuple #[(a25_ r54 vq59_11 vq59_14), (GV r55)]) (qu (a25_ r54 vq59_11 vq59_14) (Xt rfl rfl) (qu (GV r55) (Xt rfl rfl) (We (Al ze25 rfl) rfl ?_))))
 rintro _ _ _ - ⟨rfl, g61, rfl, rfl⟩
 refine We (Sg (v := (a25_ r54 vq59_11 vq59_14)) (vl := (l25 r54 vq59_11 vq59_14)) (arr' := (l25 r54 vq59_11 vq59_14)) rfl sz25 rfl rfl (onesOf (Oc rfl (Oc rfl (Oc rfl (Oc rfl (Oc rfl (Oc rfl (Oc rfl (Oc rfl (Oc rfl (Oc rfl (Oc rfl (Oc (Ow hq59_11) (Oc rfl (Oc rfl (Oc (Ow hq59_14) Oz)))))))))))))))) rfl rfl (by kernel_rfl)) rfl ?_
 rintro _ _ _ - ⟨rfl, rfl⟩
 refine qa (GV r55) (Nt ?_)
 obtain ⟨j64, hj64, h⟩ := bnd h
 refine Jf (fun (p_ : (Bool × (List T_api_Batch))) ρ' M' H' => match p_ with | (x62, x63) => ∃ vx63, M57.le M' ∧ [(g61, .cells (l25 r54 vq59_11 vq59_14).toArray 25 (0, 0))] :: [(g53, .cells (l25 r46 vq51_11 vq51_14).toArray 25 (0, 0))] :: [(g43, .cells #[(Iv r33.Kind), vq38_1] 29 (0, 0))] :: [(g32, .cells #[(Iv 4), (Iv 1), (Iv 2), (Iv 3), (Bv false), (Bv false), (Iv 1), (Iv 5), (Iv 2), (Iv 4), (Iv 0), vx63, (Iv 0), (Iv 0), Zs] 25 (0, 0))] :: cq59_11 :: cq59_14 :: cq51_11 :: cq51_14 :: F = H' ∧ ρ' 0 = (Bv x62) ∧ RS kd_api_Batch M' vx63 x63) j64 ?_ ?_
 have h := hj64
 refine WC.draw [0, 1, 3, 7, 15, 31, 63, 127, 255, 511, 1023, 2047, 4095, 4095, 16383, 32767, 65535, 131071, 262143, 524287, 1048575, 2097151, 4194303, 8388607, 16777215, 33554431, 67108863, 134217727, 268435455, 536870911, 1073741823, 2147483647, 2147483647, 6442450943, 17179869183, 34359738367, 68719476735, 137438953471, 137438953471, 549755813887, 1099511627775, 2199023255551, 4398046511103] (.pure 0 (.pure 1 (.pure 2 (.pure 3 (.pure 4 (.pure 5 (.pure 6 (.pure 7 (.pure 8 (.pure 9 (.pure 10 (.pure 11 (.pure 12 (.pure 13 (.alt 14 (.pure 15 (.pure 16 (.pure 17 (.alt 18 (.pure 19 (.pure 20 (.pure 21 (.alt 22 (.pure 23 (.pure 24 (.pure 25 (.pure 26 (.alt 27 (.alt 28 (.pure 29 (.pure 30 (.pure 31 (.pure 32 (.alt 33 (.alt 34 (.pure 35 (.pure 36 (.pure 37 (.pure 38 (.alt 39 (.pure 40 (.pure 41 (.pure 42 .done))) .none))))) .none) .none))))) .none) .none))))) .none)))) .none)))) .none))))))))))))))) mixed (by kernel_rfl) (qt (GV r34) rfl (Mv rfl) (qt (Bv r34.isNil) rfl (PO.errNil Tryz.underlying31 rfl) (qt (Bv r34.isNil) rfl (Mv rfl) ?_)))
 rcases Bt (r34.isNil) with hb65 | hb65
 have h := ite_t hb65 h
 refine Tn (pt g43 0) 30 rfl rfl rfl hb65 (Fa fo29_0 rfl rfl) rfl (Tn (Iv r33.Kind) 30 rfl rfl rfl hb65 (Lb 6 pl3 rfl rfl rfl) rfl (Tn (Bv (decide (r33.Kind = 4))) 30 rfl rfl rfl hb65 (PO.eql rfl rfl) rfl (qt (Bv (decide (r33.Kind = 4))) rfl (Pt rfl hb65 rfl) (qt (Bv (decide (r33.Kind = 4))) rfl (Mv rfl) ?_))))
 rcases Bt (decide (r33.Kind = 4)) with hb66 | hb66
 have h := ite_t hb66 h
 refine Tn (GV r47) 35 rfl rfl rfl hb66 (Mv rfl) rfl (Tn (Bv r47.isNil) 35 rfl rfl rfl hb66 (PO.errNil Tryz.underlying31 rfl) rfl (qt (Bv r47.isNil) rfl (Pt rfl hb66 rfl) (qt (Bv r47.isNil) rfl (Mv rfl) ?_)))
 rcases Bt (r47.isNil) with hb67 | hb67
 have h := ite_t hb67 h
 refine Tn (a25_ r46 vq51_11 vq51_14) 39 rfl rfl rfl hb67 (La (cs := (l25 r46 vq51_11 vq51_14)) 3 ag25 sz25 rfl rfl rfl) rfl (Tn (.agg #[(Iv 4), (Iv 1), (Iv 2), (Iv 3), (Bv false), (Bv false), (Iv 1), (Iv 5), (Iv 2), (Iv 4), (Iv 0), (.slice (some ⟨g29, 0, none⟩) 1 1), (Iv 0), (Iv 0), Zs]) 39 rfl rfl rfl hb67 (La (cs := [(Iv 4), (Iv 1), (Iv 2), (Iv 3), (Bv false), (Bv false), (Iv 1), (Iv 5), (Iv 2), (Iv 4), (Iv 0), (.slice (some ⟨g29, 0, none⟩) 1 1), (Iv 0), (Iv 0), Zs]) 8 ag25 sz25 rfl rfl rfl) rfl ?_)
 obtain ⟨r68, hr69, h⟩ := bnd h
 refine WT.f7 (WT.f6 (WT.f6 ?_))
 have hq51_11 := hq51_11.mono hle58
 have hq51_14 := hq51_14.mono hle58
 have h31 := h31.mono L58
 refine WT.altOn 39 rfl rfl rfl hb67 (EO.call3 co17 (Tri.lend hq51_11.excl fun w0_ H0_ hs0_ => (Tri.lend hq51_14.excl fun w1_ H1_ hs1_ => (Tri.lend h31.excl fun w2_ H2_ hs2_ => (f_rpc_Same_ok r46 lit1_ _ _ _ _ _ (((hq51_11.rs hs0_).mono (IM.le_add _ _)).mono (IM.le_add _ _)) (((hq51_14.mono (IM.le_add _ _)).rs hs1_).mono (IM.le_add _ _)) (((h31.mono (IM.le_add _ _)).mono (IM.le_add _ _)).rs hs2_) (RS.nil _ _) r68 hr69)))) (args2 rfl rfl)) rfl ?_ ?_
 rintro _ _ _ hle71 ⟨_, ⟨Ml79, Hl80, hll81, rfl, rfl, ⟨Ml76, Hl77, hll78, rfl, rfl, ⟨Ml73, Hl74, hll75, rfl, rfl, ⟨rfl, rfl⟩⟩⟩⟩, rfl⟩
 refine ⟨(Sl rfl), ?_⟩
 refine WT.a3 (qt (Bv r68) rfl (Pt rfl hb67 rfl) (qt (Bv r68) rfl (Mv rfl) ?_))
 rcases Bt (r68) with hb82 | hb82
 have h := ite_t hb82 h
 refine Tn (GV r55) 44 rfl rfl rfl hb82 (Mv rfl) rfl ?_
 obtain ⟨r83, hr84, h⟩ := bnd h
 refine WT.altOn 44 rfl rfl rfl hb82 (Ca co22 (f_fault_Is_ok r55 (5 : Int) _ r83 hr84) (args2 rfl rfl)) rfl ?_ ?_
 rintro _ M85 _ hle86 ⟨_, ⟨rfl, rfl⟩, rfl⟩
 have L86 := hle71.trans hle86
 refine ⟨(Sl rfl), ?_⟩
 refine WT.a0 (qt (Bv r83) rfl (Pt rfl hb82 rfl) (qt (Bv r83) rfl (Mv rfl) ?_))
 rcases Bt (r83) with hb88 | hb88
 have h := ite_t hb88 h
 refine Tn (.agg #[(Iv 4), (Iv 1), (Iv 2), (Iv 3), (Bv false), (Bv false), (Iv 1), (Iv 5), (Iv 2), (Iv 4), (Iv 0), (.slice (some ⟨g29, 0, none⟩) 1 1), (Iv 0), (Iv 0), Zs]) 48 rfl rfl rfl hb88 (La (cs := [(Iv 4), (Iv 1), (Iv 2), (Iv 3), (Bv false), (Bv false), (Iv 1), (Iv 5), (Iv 2), (Iv 4), (Iv 0), (.slice (some ⟨g29, 0, none⟩) 1 1), (Iv 0), (Iv 0), Zs]) 8 ag25 sz25 rfl rfl rfl) rfl ?_
 obtain ⟨r89, hr90, h⟩ := bnd h
 refine WT.f2 ?_
 have h31 := h31.mono L86
 refine WT.altOn 48 rfl rfl rfl hb88 (Cb co16 (Tri.lend h31.excl fun w0_ H0_ hs0_ => (f_rpc_Check_ok lit1_ _ _ _ (h31.rs hs0_) (RS.nil _ _) r89 hr90)) (args1 rfl)) rfl ?_ ?_
 rintro _ _ _ hle92 ⟨_, ⟨Ml94, Hl95, hll96, rfl, rfl, ⟨rfl, rfl⟩⟩, rfl⟩
 have L92 := L86.trans hle92
 refine ⟨(Sl rfl), ?_⟩
 refine WT.a1 (Tn (Bv r89.isNil) 48 rfl rfl rfl hb88 (PO.errNil Tryz.underlying31 rfl) rfl (qt (Bv r89.isNil) rfl (Pt rfl hb88 rfl) (qt (Bv r89.isNil) rfl (Mv rfl) ?_)))
 rcases Bt (r89.isNil) with hb97 | hb97
 have h := ite_t hb97 h
 refine Tn (.agg #[(Iv 1), (Iv 1), (Iv 1), (Iv 0), (Bv false), (Bv false), (Iv 0), (Iv 0), (Iv 0), (Iv 0), (Iv 0), Zs, (Iv 0), (Iv 0), Zs]) 53 rfl rfl rfl hb97 (Bl (cl := [(Iv 1), (Iv 1), (Iv 1), (Iv 0), (Bv false), (Bv false), (Iv 0), (Iv 0), (Iv 0), (Iv 0), (Iv 0), Zs, (Iv 0), (Iv 0), Zs]) ze25 fp25 (Pc (Iv 1) rfl rfl (Pc (Iv 1) rfl rfl (Pc (Iv 1) rfl rfl Pz))) rfl) rfl ?_
 obtain ⟨r98, hr99, h⟩ := bnd h
 refine WT.altOn 53 rfl rfl rfl hb97 (Ca co16 (f_rpc_Check_ok (⟨(1 : Int), (1 : Int), (1 : Int), (0 : Int), false, false, (0 : Int), (0 : Int), (0 : Int), (0 : Int), (0 : Int), [], (0 : Int), (0 : Int), []⟩ : T_api_Rpc) _ _ _ (RS.nil _ _) (RS.nil _ _) r98 hr99) (args1 rfl)) rfl ?_ ?_
 rintro _ M100 _ hle101 ⟨_, ⟨rfl, rfl⟩, rfl⟩
 have L101 := L92.trans hle101
 refine ⟨(Sl rfl), ?_⟩
 refine WT.a0 ?_
 obtain ⟨r103, hr104, h⟩ := bnd h
 refine WT.altOn 53 rfl rfl rfl hb97 (Ca co22 (f_fault_Is_ok r98 (2 : Int) _ r103 hr104) (args2 rfl rfl)) rfl ?_ ?_
 rintro _ M105 _ hle106 ⟨_, ⟨rfl, rfl⟩, rfl⟩
 have L106 := L101.trans hle106
 refine ⟨(Sl rfl), ?_⟩
 refine WT.a0 (qt (Bv r103) rfl (Pt rfl hb97 rfl) (qt (Bv r103) rfl (Mv rfl) ?_))
 rcases Bt (r103) with hb108 | hb108
 have h := ite_t hb108 h
 refine Tn (.agg #[(Iv 4), (Iv 1), (Iv 2), (Iv 3), (Bv false), (Bv false), (Iv 1), (Iv 5), (Iv 2), (Iv 4), (Iv 0), (.slice (some ⟨g29, 0, none⟩) 1 1), (Iv 0), (Iv 0), Zs]) 58 rfl rfl rfl hb108 (La (cs := [(Iv 4), (Iv 1), (Iv 2), (Iv 3), (Bv false), (Bv false), (Iv 1), (Iv 5), (Iv 2), (Iv 4), (Iv 0), (.slice (some ⟨g29, 0, none⟩) 1 1), (Iv 0), (Iv 0), Zs]) 8 ag25 sz25 rfl rfl rfl) rfl (Tn (.agg #[(Iv 4), (Iv 1), (Iv 2), (Iv 3), (Bv false), (Bv false), (Iv 1), (Iv 5), (Iv 2), (Iv 4), (Iv 0), (.slice (some ⟨g29, 0, none⟩) 1 1), (Iv 0), (Iv 0), Zs]) 58 rfl rfl rfl hb108 (La (cs := [(Iv 4), (Iv 1), (Iv 2), (Iv 3), (Bv false), (Bv false), (Iv 1), (Iv 5), (Iv 2), (Iv 4), (Iv 0), (.slice (some ⟨g29, 0, none⟩) 1 1), (Iv 0), (Iv 0), Zs]) 8 ag25 sz25 rfl rfl rfl) rfl ?_)
 have h31 := h31.mono ((hle92.trans hle101).trans hle106)
 refine WT.know (fun _ hs => h31.rs hs) (fun hf110 => ?_)
 refine WT.freeze (fun hle109 => ?_)
 obtain ⟨r111, hr112, h⟩ := bnd h
 refine WT.altOn 58 rfl rfl rfl hb108 (Ca co18 (f_rpc_Copy_ok lit1_ _ _ _ hf110 (RS.nil _ _) r111 hr112) (args1 rfl)) rfl ?_ ?_
 rintro _ M113 _ hle114 ⟨_, ⟨vq115_11, cq115_11, vq115_14, cq115_14, rfl, rfl, hq115_11, hq115_14⟩, rfl⟩
 refine ⟨(Sk 1 rfl (St (StabA.on 58 rfl rfl rfl hb108 (La (cs := [(Iv 4), (Iv 1), (Iv 2), (Iv 3), (Bv false), (Bv false), (Iv 1), (Iv 5), (Iv 2), (Iv 4), (Iv 0), (.slice (some ⟨g29, 0, none⟩) 1 1), (Iv 0), (Iv 0), Zs]) 9 ag25 sz25 rfl rfl rfl) rfl) (Sl rfl))), ?_⟩
 refine WT.a2 ?_
 obtain ⟨r116, hr117, h⟩ := bnd h
 refine WT.f1 (WT.f1 ?_)
 have hf110 := hf110.mono hle114
 refine WT.altOn 58 rfl rfl rfl hb108 (EO.call2 co17 (Tri.lend hq115_11.excl fun w0_ H0_ hs0_ => (Tri.lend hq115_14.excl fun w1_ H1_ hs1_ => (f_rpc_Same_ok lit1_ r111 _ _ _ _ _ ((hf110.mono (IM.le_add _ _)).mono (IM.le_add _ _)) (RS.nil _ _) ((hq115_11.rs hs0_).mono (IM.le_add _ _)) ((hq115_14.mono (IM.le_add _ _)).rs hs1_) r116 hr117))) (args2 rfl rfl)) rfl ?_ ?_
 rintro _ _ _ hle119 ⟨_, ⟨Ml124, Hl125, hll126, rfl, rfl, ⟨Ml121, Hl122, hll123, rfl, rfl, ⟨rfl, rfl⟩⟩⟩, rfl⟩
 refine ⟨(Sl rfl), ?_⟩
 refine WT.a2 (qt (Bv r116) rfl (Pt rfl hb108 rfl) (qt (Bv r116) rfl (Mv rfl) ?_))
 rcases Bt (r116) with hb127 | hb127
 have h := ite_t hb127 h
 refine Tn (.agg #[(Iv 4), (Iv 1), (Iv 2), (Iv 3), (Bv false), (Bv false), (Iv 1), (Iv 5), (Iv 2), (Iv 4), (Iv 0), (.slice (some ⟨g29, 0, none⟩) 1 1), (Iv 0), (Iv 0), Zs]) 64 rfl rfl rfl hb127 (La (cs := [(Iv 4), (Iv 1), (Iv 2), (Iv 3), (Bv false), (Bv false), (Iv 1), (Iv 5), (Iv 2), (Iv 4), (Iv 0), (.slice (some ⟨g29, 0, none⟩) 1 1), (Iv 0), (Iv 0), Zs]) 9 ag25 sz25 rfl rfl rfl) rfl (Tn (.agg z25_.toArray) 64 rfl rfl rfl hb127 (Bl (cl := z25_) ze25 fp25 Pz rfl) rfl ?_)
 obtain ⟨r128, hr129, h⟩ := bnd h
 have hf110 := hf110.mono hle119
 refine WT.altOn 64 rfl rfl rfl hb127 (Ca co17 (f_rpc_Same_ok lit1_ lit4_ _ _ _ _ _ hf110 (RS.nil _ _) (RS.nil _ _) (RS.nil _ _) r128 hr129) (args2 rfl rfl)) rfl ?_ ?_
 rintro _ M130 _ hle131 ⟨_, ⟨rfl, rfl⟩, rfl⟩
 refine ⟨(Sl rfl), ?_⟩
 refine WT.a0 (Tn (Bv (!r128)) 64 rfl rfl rfl hb127 (PO.not rfl) rfl (qt (Bv (!r128)) rfl (Pt rfl hb127 rfl) (qt (Bv (!r128)) rfl (Ag rfl) (Ti (Dr (Dr (Qa (Qa (WQ.f4 (WQ.f4 (WQ.f7 ?_)))))))))))
 refine WQ.f7 (WQ.f7 (WQ.f7 ?_))
 obtain rfl := oi h
 refine Tj ?_
 have hf110 := hf110.mono hle131
 exact ⟨(.slice (some ⟨g29, 0, none⟩) 1 1), ((((L106.trans hle109).trans hle114).trans hle119).trans hle131), rfl, rfl, hf110⟩
 exact Tz
 have h := ite_f hb127 h
 refine Tf 64 rfl rfl rfl hb127 rfl (Tf 64 rfl rfl rfl hb127 rfl (Tg 64 rfl rfl rfl hb127 rfl ⟨(Sl rfl), ?_⟩ ?_))
 refine Tf 64 rfl rfl rfl hb127 rfl (qt (Bv false) rfl (Pf rfl hb127 rfl) (qt (Bv false) rfl (Ag rfl) (Ti (Dr (Dr (Qa (Qa (WQ.f4 (WQ.f4 (WQ.f7 (WQ.f7 ?_)))))))))))
 refine WQ.f7 (WQ.f7 ?_)
 obtain rfl := oi h
 refine Tj ?_
 have hf110 := hf110.mono hle119
 exact ⟨(.slice (some ⟨g29, 0, none⟩) 1 1), (((L106.trans hle109).trans hle114).trans hle119), rfl, rfl, hf110⟩
 exact Tz
 exact Tz
 exact Tz
 have h := ite_f hb108 h
 refine Tf 58 rfl rfl rfl hb108 rfl (Tf 58 rfl rfl rfl hb108 rfl (Tg 58 rfl rfl rfl hb108 rfl ⟨(Sk 1 rfl (St (Sf 58 rfl rfl rfl hb108 rfl) (Sl rfl))), ?_⟩ ?_))
 refine Tg 58 rfl rfl rfl hb108 rfl ⟨(Sl rfl), ?_⟩ ?_
 refine qt (Bv false) rfl (Pf rfl hb108 rfl) (qt (Bv false) rfl (Mv rfl) (Tf 64 rfl rfl rfl rfl rfl (Tf 64 rfl rfl rfl rfl rfl (Tg 64 rfl rfl rfl rfl rfl ⟨(Sl rfl), ?_⟩ ?_))))
 refine Tf 64 rfl rfl rfl rfl rfl (qt (Bv false) rfl (Pf rfl rfl rfl) (qt (Bv false) rfl (Ag rfl) (Ti ?_)))
 have h31 := h31.mono ((hle92.trans hle101).trans hle106)
 refine WQ.know (fun _ hs => h31.rs hs) (fun hf134 => ?_)
 refine WQ.freeze (fun hle133 => ?_)
 refine Qa (Qa (WQ.f4 (WQ.f4 (WQ.f7 (WQ.f7 (WQ.f7 (WQ.f7 ?_)))))))
 obtain rfl := oi h
 exact Tj ⟨(.slice (some ⟨g29, 0, none⟩) 1 1), (L106.trans hle133), rfl, rfl, hf134⟩
 exact Tz
 exact Tz
 exact Tz
 exact Tz
 exact Tz
 have h := ite_f hb97 h
 refine Tf 53 rfl rfl rfl hb97 rfl (Tg 53 rfl rfl rfl hb97 rfl ⟨(Sl rfl), ?_⟩ ?_)
 refine Tg 53 rfl rfl rfl hb97 rfl ⟨(Sl rfl), ?_⟩ ?_
 refine qt (Bv false) rfl (Pf rfl hb97 rfl) (qt (Bv false) rfl (Mv rfl) (Tf 58 rfl rfl rfl rfl rfl (Tf 58 rfl rfl rfl rfl rfl (Tg 58 rfl rfl rfl rfl rfl ⟨(Sk 1 rfl (St (Sf 58 rfl rfl rfl rfl rfl) (Sl rfl))), ?_⟩ ?_))))
 refine Tg 58 rfl rfl rfl rfl rfl ⟨(Sl rfl), ?_⟩ ?_
 refine qt (Bv false) rfl (Pf rfl rfl rfl) (qt (Bv false) rfl (Mv rfl) (Tf 64 rfl rfl rfl rfl rfl (Tf 64 rfl rfl rfl rfl rfl (Tg 64 rfl rfl rfl rfl rfl ⟨(Sl rfl), ?_⟩ ?_))))
 refine Tf 64 rfl rfl rfl rfl rfl (qt (Bv false) rfl (Pf rfl rfl rfl) (qt (Bv false) rfl (Ag rfl) (Ti ?_)))
 have h31 := h31.mono hle92
 refine WQ.know (fun _ hs => h31.rs hs) (fun hf136 => ?_)
 refine WQ.freeze (fun hle135 => ?_)
 refine Qa (Qa (WQ.f4 (WQ.f4 (WQ.f7 (WQ.f7 (WQ.f7 (WQ.f7 ?_)))))))
 obtain rfl := oi h
 exact Tj ⟨(.slice (some ⟨g29, 0, none⟩) 1 1), (L92.trans hle135), rfl, rfl, hf136⟩
 exact Tz
 exact Tz
 exact Tz
 exact Tz
 exact Tz
 exact Tz
 have h := ite_f hb88 h
 refine Tf 48 rfl rfl rfl hb88 rfl (Tg 48 rfl rfl rfl hb88 rfl ⟨(Sl rfl), ?_⟩ ?_)
 refine Tf 48 rfl rfl rfl hb88 rfl (qt (Bv false) rfl (Pf rfl hb88 rfl) (qt (Bv false) rfl (Mv rfl) (Tf 53 rfl rfl rfl rfl rfl (Tg 53 rfl rfl rfl rfl rfl ⟨(Sl rfl), ?_⟩ ?_))))
 refine Tg 53 rfl rfl rfl rfl rfl ⟨(Sl rfl), ?_⟩ ?_
 refine qt (Bv false) rfl (Pf rfl rfl rfl) (qt (Bv false) rfl (Mv rfl) (Tf 58 rfl rfl rfl rfl rfl (Tf 58 rfl rfl rfl rfl rfl (Tg 58 rfl rfl rfl rfl rfl ⟨(Sk 1 rfl (St (Sf 58 rfl rfl rfl rfl rfl) (Sl rfl))), ?_⟩ ?_))))
 refine Tg 58 rfl rfl rfl rfl rfl ⟨(Sl rfl), ?_⟩ ?_
 refine qt (Bv false) rfl (Pf rfl rfl rfl) (qt (Bv false) rfl (Mv rfl) (Tf 64 rfl rfl rfl rfl rfl (Tf 64 rfl rfl rfl rfl rfl (Tg 64 rfl rfl rfl rfl rfl ⟨(Sl rfl), ?_⟩ ?_))))
 refine Tf 64 rfl rfl rfl rfl rfl (qt (Bv false) rfl (Pf rfl rfl rfl) (qt (Bv false) rfl (Ag rfl) (Ti (Qb ?_))))
 have h31 := h31.mono L86
 refine WQ.know (fun _ hs => h31.rs hs) (fun hf138 => ?_)
 refine WQ.freeze (fun hle137 => ?_)
 refine Qa (Qa (WQ.f4 (WQ.f4 (WQ.f7 (WQ.f7 (WQ.f7 (WQ.f7 ?_)))))))
 obtain rfl := oi h
 exact Tj ⟨(.slice (some ⟨g29, 0, none⟩) 1 1), (L86.trans hle137), rfl, rfl, hf138⟩
 exact Tz
 exact Tz
 exact Tz
 exact Tz
 exact Tz
 exact Tz
 exact Tz
 have h := ite_f hb82 h
 refine Tf 44 rfl rfl rfl hb82 rfl (Tg 44 rfl rfl rfl hb82 rfl ⟨(Sl rfl), ?_⟩ ?_)
 refine qt (Bv false) rfl (Pf rfl hb82 rfl) (qt (Bv false) rfl (Mv rfl) (Tf 48 rfl rfl rfl rfl rfl (Tg 48 rfl rfl rfl rfl rfl ⟨(Sl rfl), ?_⟩ ?_)))
 refine Tf 48 rfl rfl rfl rfl rfl (qt (Bv false) rfl (Pf rfl rfl rfl) (qt (Bv false) rfl (Mv rfl) (Tf 53 rfl rfl rfl rfl rfl (Tg 53 rfl rfl rfl rfl rfl ⟨(Sl rfl), ?_⟩ ?_))))
 refine Tg 53 rfl rfl rfl rfl rfl ⟨(Sl rfl), ?_⟩ ?_
 refine qt (Bv false) rfl (Pf rfl rfl rfl) (qt (Bv false) rfl (Mv rfl) (Tf 58 rfl rfl rfl rfl rfl (Tf 58 rfl rfl rfl rfl rfl (Tg 58 rfl rfl rfl rfl rfl ⟨(Sk 1 rfl (St (Sf 58 rfl rfl rfl rfl rfl) (Sl rfl))), ?_⟩ ?_))))
 refine Tg 58 rfl rfl rfl rfl rfl ⟨(Sl rfl), ?_⟩ ?_
 refine qt (Bv false) rfl (Pf rfl rfl rfl) (qt (Bv false) rfl (Mv rfl) (Tf 64 rfl rfl rfl rfl rfl (Tf 64 rfl rfl rfl rfl rfl (Tg 64 rfl rfl rfl rfl rfl ⟨(Sl rfl), ?_⟩ ?_))))
 refine Tf 64 rfl rfl rfl rfl rfl (qt (Bv false) rfl (Pf rfl rfl rfl) (qt (Bv false) rfl (Ag rfl) (Ti (Qb ?_))))
 have h31 := h31.mono hle71
 refine WQ.know (fun _ hs => h31.rs hs) (fun hf140 => ?_)
 refine WQ.freeze (fun hle139 => ?_)
 refine Qa (Qa (WQ.f4 (WQ.f4 (WQ.f7 (WQ.f7 (WQ.f7 (WQ.f7 ?_)))))))
 obtain rfl := oi h
 exact Tj ⟨(.slice (some ⟨g29, 0, none⟩) 1 1), (hle71.trans hle139), rfl, rfl, hf140⟩
 exact Tz
 exact Tz
 exact Tz
 exact Tz
 exact Tz
 exact Tz
 exact Tz
 exact Tz
 have h := ite_f hb67 h
 refine Tf 39 rfl rfl rfl hb67 rfl (Tf 39 rfl rfl rfl hb67 rfl (Tg 39 rfl rfl rfl hb67 rfl ⟨(Sl rfl), ?_⟩ ?_))
 refine qt (Bv false) rfl (Pf rfl hb67 rfl) (qt (Bv false) rfl (Mv rfl) (Tf 44 rfl rfl rfl rfl rfl (Tg 44 rfl rfl rfl rfl rfl ⟨(Sl rfl), ?_⟩ ?_)))
 refine qt (Bv false) rfl (Pf rfl rfl rfl) (qt (Bv false) rfl (Mv rfl) (Tf 48 rfl rfl rfl rfl rfl (Tg 48 rfl rfl rfl rfl rfl ⟨(Sl rfl), ?_⟩ ?_)))
 refine Tf 48 rfl rfl rfl rfl rfl (qt (Bv false) rfl (Pf rfl rfl rfl) (qt (Bv false) rfl (Mv rfl) (Tf 53 rfl rfl rfl rfl rfl (Tg 53 rfl rfl rfl rfl rfl ⟨(Sl rfl), ?_⟩ ?_))))
 refine Tg 53 rfl rfl rfl rfl rfl ⟨(Sl rfl), ?_⟩ ?_
 refine qt (Bv false) rfl (Pf rfl rfl rfl) (qt (Bv false) rfl (Mv rfl) (Tf 58 rfl rfl rfl rfl rfl (Tf 58 rfl rfl rfl rfl rfl (Tg 58 rfl rfl rfl rfl rfl ⟨(Sk 1 rfl (St (Sf 58 rfl rfl rfl rfl rfl) (Sl rfl))), ?_⟩ ?_))))
 refine Tg 58 rfl rfl rfl rfl rfl ⟨(Sl rfl), ?_⟩ ?_
 refine qt (Bv false) rfl (Pf rfl rfl rfl) (qt (Bv false) rfl (Mv rfl) (Tf 64 rfl rfl rfl rfl rfl (Tf 64 rfl rfl rfl rfl rfl (Tg 64 rfl rfl rfl rfl rfl ⟨(Sl rfl), ?_⟩ ?_))))
 refine Tf 64 rfl rfl rfl rfl rfl (qt (Bv false) rfl (Pf rfl rfl rfl) (qt (Bv false) rfl (Ag rfl) (Ti (WQ.f7 ?_))))
 have h31 := h31.mono L58
 refine WQ.know (fun _ hs => h31.rs hs) (fun hf142 => ?_)
 refine WQ.freeze (fun hle141 => ?_)
 refine WQ.f5 (WQ.f5 (WQ.f4 (WQ.f4 (WQ.f7 (WQ.f7 (WQ.f7 (WQ.f7 ?_)))))))
 obtain rfl := oi h
 exact Tj ⟨(.slice (some ⟨g29, 0, none⟩) 1 1), hle141, rfl, rfl, hf142⟩
 exact Tz
 exact Tz
 exact Tz
 exact Tz
 exact Tz
 exact Tz
 exact Tz
 exact Tz
 have h := ite_f hb66 h
 refine Tf 35 rfl rfl rfl hb66 rfl (Tf 35 rfl rfl rfl hb66 rfl (qt (Bv false) rfl (Pf rfl hb66 rfl) (qt (Bv false) rfl (Mv rfl) (Tf 39 rfl rfl rfl rfl rfl (Tf 39 rfl rfl rfl rfl rfl (Tg 39 rfl rfl rfl rfl rfl ⟨(Sl rfl), ?_⟩ ?_))))))
 refine qt (Bv false) rfl (Pf rfl rfl rfl) (qt (Bv false) rfl (Mv rfl) (Tf 44 rfl rfl rfl rfl rfl (Tg 44 rfl rfl rfl rfl rfl ⟨(Sl rfl), ?_⟩ ?_)))
 refine qt (Bv false) rfl (Pf rfl rfl rfl) (qt (Bv false) rfl (Mv rfl) (Tf 48 rfl rfl rfl rfl rfl (Tg 48 rfl rfl rfl rfl rfl ⟨(Sl rfl), ?_⟩ ?_)))
 refine Tf 48 rfl rfl rfl rfl rfl (qt (Bv false) rfl (Pf rfl rfl rfl) (qt (Bv false) rfl (Mv rfl) (Tf 53 rfl rfl rfl rfl rfl (Tg 53 rfl rfl rfl rfl rfl ⟨(Sl rfl), ?_⟩ ?_))))
 refine Tg 53 rfl rfl rfl rfl rfl ⟨(Sl rfl), ?_⟩ ?_
 refine qt (Bv false) rfl (Pf rfl rfl rfl) (qt (Bv false) rfl (Mv rfl) (Tf 58 rfl rfl rfl rfl rfl (Tf 58 rfl rfl rfl rfl rfl (Tg 58 rfl rfl rfl rfl rfl ⟨(Sk 1 rfl (St (Sf 58 rfl rfl rfl rfl rfl) (Sl rfl))), ?_⟩ ?_))))
 refine Tg 58 rfl rfl rfl rfl rfl ⟨(Sl rfl), ?_⟩ ?_
 refine qt (Bv false) rfl (Pf rfl rfl rfl) (qt (Bv false) rfl (Mv rfl) (Tf 64 rfl rfl rfl rfl rfl (Tf 64 rfl rfl rfl rfl rfl (Tg 64 rfl rfl rfl rfl rfl ⟨(Sl rfl), ?_⟩ ?_))))
 refine Tf 64 rfl rfl rfl rfl rfl (qt (Bv false) rfl (Pf rfl rfl rfl) (qt (Bv false) rfl (Ag rfl) (Ti (WQ.f7 ?_))))
 have h31 := h31.mono L58
 refine WQ.know (fun _ hs => h31.rs hs) (fun hf144 => ?_)
 refine WQ.freeze (fun hle143 => ?_)
 refine WQ.f5 (WQ.f5 (WQ.f4 (WQ.f4 (WQ.f7 (WQ.f7 (WQ.f7 (WQ.f7 ?_)))))))
 obtain rfl := oi h
 exact Tj ⟨(.slice (some ⟨g29, 0, none⟩) 1 1), hle143, rfl, rfl, hf144⟩
 exact Tz
 exact Tz
 exact Tz
 exact Tz
 exact Tz
 exact Tz
 exact Tz
 exact Tz
 have h := ite_f hb65 h
 refine Tf 30 rfl rfl rfl hb65 rfl (Tf 30 rfl rfl rfl hb65 rfl (Tf 30 rfl rfl rfl hb65 rfl (qt (Bv false) rfl (Pf rfl hb65 rfl) (qt (Bv false) rfl (Mv rfl) (Tf 35 rfl rfl rfl rfl rfl (Tf 35 rfl rfl rfl rfl rfl (qt (Bv false) rfl (Pf rfl rfl rfl) (qt (Bv false) rfl (Mv rfl) (Tf 39 rfl rfl rfl rfl rfl (Tf 39 rfl rfl rfl rfl rfl (Tg 39 rfl rfl rfl rfl rfl ⟨(Sl rfl), ?_⟩ ?_)))))))))))
 refine qt (Bv false) rfl (Pf rfl rfl rfl) (qt (Bv false) rfl (Mv rfl) (Tf 44 rfl rfl rfl rfl rfl (Tg 44 rfl rfl rfl rfl rfl ⟨(Sl rfl), ?_⟩ ?_)))
 refine qt (Bv false) rfl (Pf rfl rfl rfl) (qt (Bv false) rfl (Mv rfl) (Tf 48 rfl rfl rfl rfl rfl (Tg 48 rfl rfl rfl rfl rfl ⟨(Sl rfl), ?_⟩ ?_)))
 refine Tf 48 rfl rfl rfl rfl rfl (qt (Bv false) rfl (Pf rfl rfl rfl) (qt (Bv false) rfl (Mv rfl) (Tf 53 rfl rfl rfl rfl rfl (Tg 53 rfl rfl rfl rfl rfl ⟨(Sl rfl), ?_⟩ ?_))))
 refine Tg 53 rfl rfl rfl rfl rfl ⟨(Sl rfl), ?_⟩ ?_
 refine qt (Bv false) rfl (Pf rfl rfl rfl) (qt (Bv false) rfl (Mv rfl) (Tf 58 rfl rfl rfl rfl rfl (Tf 58 rfl rfl rfl rfl rfl (Tg 58 rfl rfl rfl rfl rfl ⟨(Sk 1 rfl (St (Sf 58 rfl rfl rfl rfl rfl) (Sl rfl))), ?_⟩ ?_))))
 refine Tg 58 rfl rfl rfl rfl rfl ⟨(Sl rfl), ?_⟩ ?_
 refine qt (Bv false) rfl (Pf rfl rfl rfl) (qt (Bv false) rfl (Mv rfl) (Tf 64 rfl rfl rfl rfl rfl (Tf 64 rfl rfl rfl rfl rfl (Tg 64 rfl rfl rfl rfl rfl ⟨(Sl rfl), ?_⟩ ?_))))
 refine Tf 64 rfl rfl rfl rfl rfl (qt (Bv false) rfl (Pf rfl rfl rfl) (qt (Bv false) rfl (Ag rfl) (Ti (WQ.f7 ?_))))
 have h31 := h31.mono L58
 refine WQ.know (fun _ hs => h31.rs hs) (fun hf146 => ?_)
 refine WQ.freeze (fun hle145 => ?_)
 refine WQ.f5 (WQ.f5 (WQ.f4 (WQ.f4 (WQ.f7 (WQ.f7 (WQ.f7 (WQ.f7 ?_)))))))
 obtain rfl := oi h
 exact Tj ⟨(.slice (some ⟨g29, 0, none⟩) 1 1), hle145, rfl, rfl, hf146⟩
 exact Tz
 exact Tz
 exact Tz
 exact Tz
 exact Tz
 exact Tz
 exact Tz
 exact Tz
 obtain ⟨x62, x63⟩ := j64
 rintro ρ64 M64 H64 ⟨vx63, hle64, rfl, hs64_0, hx63⟩
 exact Cr (Dr (Dr (Dr (Dr (Dr (Dr (Dr (Dr (Rf h [] rfl (Rs rfl hs64_0) (((((hle27.trans hle37).trans hle44).trans hle50).trans hle58).trans hle64) ⟨rfl, rfl⟩)))))))))


end Go.Proofs.YtkflneabcannnaaGreatDoor.G
