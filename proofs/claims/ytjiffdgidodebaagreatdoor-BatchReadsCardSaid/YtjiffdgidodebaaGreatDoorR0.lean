/- Go functions: what they come to, and that they do. Printed by a program of the session (gen). -/
import Derived.Test.YtjiffdgidodebaaGreatDoorRF
import Derived.Test.YtjiffdgidodebaaGreatDoorKShar2
import Derived.Test.YtjiffdgidodebaaGreatDoorKConv
import Derived.Test.YtjiffdgidodebaaGreatDoorKTight
set_option linter.unusedVariables false
set_option linter.unusedSimpArgs false
set_option maxHeartbeats 8000000
set_option maxRecDepth 100000
namespace Go.Proofs.YtjiffdgidodebaaGreatDoor.G
open Go Go.KK

noncomputable def f_slices_Clone_int_int (a0 : (List Int)) : Option (List Int) :=
  (grd (([] : List Int).length + a0.length ≤ 274877906944) (some (([] : List Int) ++ a0)))
def f_slices_Clone_int_int_post (a0 : (List Int)) (v0 : Value) : (List Int) → Value → IM → HL → Prop :=
  fun (r0 : (List Int)) (v : Value) (M' : IM) (H' : HL) => ∃ vz0 cz0, vz0 = v ∧ H' = [cz0] ∧ OwnS (Kd.int .i64) M' vz0 r0 cz0
theorem f_slices_Clone_int_int_ok (a0 : (List Int)) (M : IM) (v0 : Value) (h0 : RS (Kd.int .i64) M v0 a0) (res : (List Int)) (h : f_slices_Clone_int_int a0 = some res) :
    Tri Tryz.prog 68 #[v0] M [] (f_slices_Clone_int_int_post a0 v0 res) := by
 unfold f_slices_Clone_int_int at h
 refine Te Tryz.func68 rfl rfl ?_
 intro F ρ hρ
 refine Sr (Pa Zs rfl rfl (Nt (Cs (Sr (Pm v0 (hρ 0) rfl (Pu (Bv (nilS v0)) (PO.sliceNil Tryz.underlying65 rfl h0.len rfl) rfl (Nt (Cd (b := nilS v0) rfl (fun hb21 => ?_) (fun hb21 => ?_)))))))))
 obtain rfl := h0.nilxs (by decide) hb21
 have h := Eq.trans (a := ((some []) : Option (List Int))) (by simp [grd]) h
 exact Sr (Pa Zs rfl rfl (Nt (Cr (Tr (WQ.e0 (Rf h [[]] rfl (Rs rfl rfl) lr ⟨Zs, [], rfl, rfl, (OwnS.nil _ _)⟩))))))
 refine Ck (Tc (Sr (We (EO.buildSliceL (cl := []) Tryz.underlying65 iz3 rfl Pz rfl) rfl ?_)))
 rintro _ _ _ - ⟨rfl, g23, rfl, rfl⟩
 have h25 : OwnS (Kd.int .i64) M (.slice (some ⟨g23, 0, none⟩) 0 0) [] [(g23, .cells #[] 3 (0, 0))] := OwnS.rows (css := []) Rows.nil rfl rfl
 refine Pm v0 (hρ 0) rfl ?_
 obtain ⟨hg29, h⟩ := grd_i h
 refine We (EO.append (dd := (Kd.int .i64)) (xs := []) (ys := a0) Tryz.underlying65 Tryz.underlying65 in3 rfl (appB (by decide) hg29) (by decide) rfl rfl h25 (h0.src _)) rfl ?_
 rintro v28 _ _ - ⟨rfl, c26, rfl, h27⟩
 exact Pa v28 rfl rfl (Nt (Cr (Rf h [c26] rfl (Rs rfl rfl) lr ⟨v28, c26, rfl, rfl, h27⟩)))

noncomputable def f_batch_one (a0 : T_api_Record) : Option T_api_Record :=
  ((f_slices_Clone_int_int a0.Ids).bind fun (r23 : (List Int)) => ((f_slices_Clone_int_int a0.Isr).bind fun (r28 : (List Int)) => ((f_slices_Clone_int_int a0.Add).bind fun (r33 : (List Int)) => ((f_slices_Clone_int_int a0.Drop).bind fun (r38 : (List Int)) => (some (⟨a0.Kind, a0.Broker, a0.Epoch, a0.Topic, a0.Part, a0.Leader, a0.Client, a0.Serial, a0.Code, a0.Flag, a0.Name, a0.Key, a0.Value, a0.Rack, r23, r28, r33, r38⟩ : T_api_Record))))))
def f_batch_one_post (a0 : T_api_Record) (v0_14 v0_15 v0_16 v0_17 : Value) : T_api_Record → Value → IM → HL → Prop :=
  fun (r0 : T_api_Record) (v : Value) (M' : IM) (H' : HL) => ∃ vz0_14 cz0_14 vz0_15 cz0_15 vz0_16 cz0_16 vz0_17 cz0_17, (.agg #[(.int .i64 r0.Kind), (.int .i64 r0.Broker), (.int .i64 r0.Epoch), (.int .i64 r0.Topic), (.int .i64 r0.Part), (.int .i64 r0.Leader), (.int .i64 r0.Client), (.int .i64 r0.Serial), (.int .i64 r0.Code), (.bool r0.Flag), (.string r0.Name), (.string r0.Key), (.string r0.Value), (.string r0.Rack), vz0_14, vz0_15, vz0_16, vz0_17]) = v ∧ H' = [cz0_14, cz0_15, cz0_16, cz0_17] ∧ OwnS (Kd.int .i64) M' vz0_14 r0.Ids cz0_14 ∧ OwnS (Kd.int .i64) M' vz0_15 r0.Isr cz0_15 ∧ OwnS (Kd.int .i64) M' vz0_16 r0.Add cz0_16 ∧ OwnS (Kd.int .i64) M' vz0_17 r0.Drop cz0_17
theorem f_batch_one_ok (a0 : T_api_Record) (M : IM) (v0_14 v0_15 v0_16 v0_17 : Value) (h0_14 : RS (Kd.int .i64) M v0_14 a0.Ids) (h0_15 : RS (Kd.int .i64) M v0_15 a0.Isr) (h0_16 : RS (Kd.int .i64) M v0_16 a0.Add) (h0_17 : RS (Kd.int .i64) M v0_17 a0.Drop) (res : T_api_Record) (h : f_batch_one a0 = some res) :
    Tri Tryz.prog 38 #[(a67_ a0 v0_14 v0_15 v0_16 v0_17)] M [] (f_batch_one_post a0 v0_14 v0_15 v0_16 v0_17 res) := by
 unfold f_batch_one at h
 refine Te Tryz.func38 rfl rfl ?_
 intro F ρ hρ
 refine Sr (We (EO.box (cs := (l67 a0 v0_14 v0_15 v0_16 v0_17).toArray) (congrArg Value.cells (asE (a67_ a0 v0_14 v0_15 v0_16 v0_17) (hρ 0)))) rfl ?_)
 rintro _ _ _ - ⟨rfl, g21, rfl, rfl⟩
 refine We (Al ze67 rfl) rfl ?_
 rintro _ _ _ - ⟨rfl, g22, rfl, rfl⟩
 refine Nt (Cs (WC.draw [0, 1, 3, 0, 8, 31, 31, 127, 255, 511] (.pure 0 (.pure 1 (.pure 3 (.pure 4 (.alt 2 (.pure 6 (.alt 5 (.alt 7 (.pure 8 (.alt 9 .done .none)) .none) .none)) .none))))) mixed (by kernel_rfl) (Tp (pt g21 14) rfl (Fa fo67_14 rfl rfl) rfl (Tp v0_14 rfl (Lb 1 pl65 rfl rfl rfl) rfl (Tp (pt g21 15) rfl (Fa fo67_15 rfl rfl) rfl (Tp v0_15 rfl (Lb 1 pl65 rfl rfl rfl) rfl ?_))))))
 obtain ⟨r23, hr24, h⟩ := bnd h
 refine Ta rfl (Ca co68 (f_slices_Clone_int_int_ok a0.Ids _ _ h0_14 r23 hr24) (args1 rfl)) rfl ?_ ?_
 rintro _ M25 _ hle26 ⟨_, ⟨vq27, cq27, rfl, rfl, hq27⟩, rfl⟩
 refine ⟨(Ss rfl (Lb 2 pl65 rfl rfl rfl) rfl (Ss rfl (Fa fo67_15 rfl rfl) rfl (Sl rfl))), ?_⟩
 refine WT.a1 (Tp (pt g21 14) rfl (Fa fo67_14 rfl rfl) rfl ?_)
 obtain ⟨r28, hr29, h⟩ := bnd h
 have h0_15 := h0_15.mono hle26
 refine Ta rfl (Ca co68 (f_slices_Clone_int_int_ok a0.Isr _ _ h0_15 r28 hr29) (args1 rfl)) rfl ?_ ?_
 rintro _ M30 _ hle31 ⟨_, ⟨vq32, cq32, rfl, rfl, hq32⟩, rfl⟩
 refine ⟨(Ss rfl (Fa fo67_14 rfl rfl) rfl (Sl rfl)), ?_⟩
 refine WT.a1 (WT.f3 ?_)
 have hq27 := hq27.mono hle31
 refine Ta rfl (Es vq27 ((l67 a0 vq27 v0_15 v0_16 v0_17)) hq27.cells sz65 rfl rfl (Ow hq27) rfl rfl (by kernel_rfl)) rfl ?_ ?_
 rintro _ _ _ - ⟨rfl, rfl⟩
 refine ⟨(Sl rfl), ?_⟩
 refine Tp (pt g21 15) rfl (Fa fo67_15 rfl rfl) rfl (Ta rfl (Es vq32 ((l67 a0 vq27 vq32 v0_16 v0_17)) hq32.cells sz65 rfl rfl (Ow hq32) rfl rfl (by kernel_rfl)) rfl ?_ ?_)
 rintro _ _ _ - ⟨rfl, rfl⟩
 refine ⟨(Sl rfl), ?_⟩
 refine Ti (Tc (Cs (WC.draw [0, 1, 3, 0, 8, 31, 31, 127, 255, 511] (.pure 0 (.pure 1 (.pure 3 (.pure 4 (.alt 2 (.pure 6 (.alt 5 (.alt 7 (.pure 8 (.alt 9 .done .none)) .none) .none)) .none))))) mixed (by kernel_rfl) (Tp (pt g21 16) rfl (Fa fo67_16 rfl rfl) rfl (Tp v0_16 rfl (Lb 0 pl65 rfl rfl rfl) rfl (Tp (pt g21 17) rfl (Fa fo67_17 rfl rfl) rfl (Tp v0_17 rfl (Lb 0 pl65 rfl rfl rfl) rfl ?_)))))))
 obtain ⟨r33, hr34, h⟩ := bnd h
 have h0_16 := h0_16.mono (hle26.trans hle31)
 refine Ta rfl (Ca co68 (f_slices_Clone_int_int_ok a0.Add _ _ h0_16 r33 hr34) (args1 rfl)) rfl ?_ ?_
 rintro _ M35 _ hle36 ⟨_, ⟨vq37, cq37, rfl, rfl, hq37⟩, rfl⟩
 refine ⟨(Ss rfl (Lb 1 pl65 rfl rfl rfl) rfl (Ss rfl (Fa fo67_17 rfl rfl) rfl (Sl rfl))), ?_⟩
 refine WT.a1 (Tp (pt g21 16) rfl (Fa fo67_16 rfl rfl) rfl ?_)
 obtain ⟨r38, hr39, h⟩ := bnd h
 have h0_17 := h0_17.mono ((hle26.trans hle31).trans hle36)
 refine Ta rfl (Ca co68 (f_slices_Clone_int_int_ok a0.Drop _ _ h0_17 r38 hr39) (args1 rfl)) rfl ?_ ?_
 rintro _ M40 _ hle41 ⟨_, ⟨vq42, cq42, rfl, rfl, hq42⟩, rfl⟩
 refine ⟨(Ss rfl (Fa fo67_16 rfl rfl) rfl (Sl rfl)), ?_⟩
 refine WT.a1 (WT.f2 ?_)
 have hq37 := hq37.mono hle41
 refine Ta rfl (Es vq37 ((l67 a0 vq27 vq32 vq37 v0_17)) hq37.cells sz65 rfl rfl (Ow hq37) rfl rfl (by kernel_rfl)) rfl ?_ ?_
 rintro _ _ _ - ⟨rfl, rfl⟩
 refine ⟨(Sl rfl), ?_⟩
 refine Tp (pt g21 17) rfl (Fa fo67_17 rfl rfl) rfl (Ta rfl (Es vq42 ((l67 a0 vq27 vq32 vq37 vq42)) hq42.cells sz65 rfl rfl (Ow hq42) rfl rfl (by kernel_rfl)) rfl ?_ ?_)
 rintro _ _ _ - ⟨rfl, rfl⟩
 refine ⟨(Sl rfl), ?_⟩
 refine Ti (Tc (Sr (Pu (a67_ a0 vq27 vq32 vq37 vq42) (La (cs := (l67 a0 vq27 vq32 vq37 vq42)) 0 ag67 sz67 rfl rfl rfl) rfl (WL.f5 ?_))))
 have hq27 := hq27.mono (hle36.trans hle41)
 have hq32 := hq32.mono (hle36.trans hle41)
 refine We (Sg (v := (a67_ a0 vq27 vq32 vq37 vq42)) (vl := (l67 a0 vq27 vq32 vq37 vq42)) (arr' := (l67 a0 vq27 vq32 vq37 vq42)) rfl sz67 rfl rfl (onesOf (Oc rfl (Oc rfl (Oc rfl (Oc rfl (Oc rfl (Oc rfl (Oc rfl (Oc rfl (Oc rfl (Oc rfl (Oc rfl (Oc rfl (Oc rfl (Oc rfl (Oc (Ow hq27) (Oc (Ow hq32) (Oc (Ow hq37) (Oc (Ow hq42) Oz))))))))))))))))))) rfl rfl (by kernel_rfl)) rfl ?_
 rintro _ _ _ - ⟨rfl, rfl⟩
 exact Nt (Cr (Qa (Dr (Qa (Qb (WQ.f3 (WQ.f4 (WQ.f4 (Rd h [cq27, cq32, cq37, cq42] (fun _ hs => hs.drop) (resultsL1 rfl (Rc (cs := (l67 a0 vq27 vq32 vq37 vq42)) 0 ag67 sz67 rfl rfl rfl)) (((hle26.trans hle31).trans hle36).trans hle41) ⟨vq27, cq27, vq32, cq32, vq37, cq37, vq42, cq42, rfl, rfl, hq27, hq32, hq37, hq42⟩)))))))))
 exact Tz
 exact Tz
 exact Tz
 exact Tz
 exact Tz
 exact Tz
 exact Tz
 exact Tz

noncomputable def f_batch_Of_l0 (a2 : (List T_api_Record)) (s_ : (Int × (List T_api_Record))) : Option ((Int × (List T_api_Record)) ⊕ (List T_api_Record)) :=
  match s_ with
  | (x26, x27) =>
    (if (decide (x26 < (a2.length : Int))) = true then (grd (0 ≤ x26 ∧ x26 < a2.length) ((f_batch_one (rd a2 x26)).bind fun (r38 : T_api_Record) => (grd (x27.length + [r38].length ≤ 274877906944) (some (Sum.inl (IntKind.i64.wrap (x26 + (1 : Int)), x27 ++ [r38])))))) else (some (Sum.inr x27)))
noncomputable def f_batch_Of (a0 : Int) (a1 : Int) (a2 : (List T_api_Record)) : Option T_api_Batch :=
  ((((iter (f_batch_Of_l0 a2) ((0 : Int), [])).bind (fun (x28 : (List T_api_Record)) => (some x28))) : Option (List T_api_Record)).bind fun (x23 : (List T_api_Record)) => (some (⟨a0, a1, x23⟩ : T_api_Batch)))
def f_batch_Of_post (a0 : Int) (a1 : Int) (a2 : (List T_api_Record)) (v2 : Value) : T_api_Batch → Value → IM → HL → Prop :=
  fun (r0 : T_api_Batch) (v : Value) (M' : IM) (H' : HL) => ∃ vz0_2 cz0_2, (.agg #[(.int .i64 r0.Term), (.int .i64 r0.Base), vz0_2]) = v ∧ H' = [cz0_2] ∧ OwnS kd_api_Record M' vz0_2 r0.Records cz0_2
theorem f_batch_Of_ok (a0 : Int) (a1 : Int) (a2 : (List T_api_Record)) (M : IM) (v2 : Value) (h2 : RS kd_api_Record M v2 a2) (res : T_api_Batch) (h : f_batch_Of a0 a1 a2 = some res) :
    Tri Tryz.prog 14 #[(Iv a0), (Iv a1), v2] M [] (f_batch_Of_post a0 a1 a2 v2 res) := by
 unfold f_batch_Of at h
 refine Te Tryz.func14 rfl rfl ?_
 intro F ρ hρ
 refine Sr (We (Al ze24 rfl) rfl ?_)
 rintro _ _ _ - ⟨rfl, g21, rfl, rfl⟩
 refine Ns (Pm (Iv a0) (hρ 0) rfl (Pm (Iv a1) (hρ 1) rfl (Pu (.agg #[(Iv a0), (Iv a1), Zs]) (Bl (cl := [(Iv a0), (Iv a1), Zs]) ze24 fp24 (Pc (Iv a0) rfl rfl (Pc (Iv a1) rfl rfl Pz)) rfl) rfl (We (Al ze24 rfl) rfl ?_))))
 rintro _ _ _ - ⟨rfl, g22, rfl, rfl⟩
 refine We (Sg (v := (.agg #[(Iv a0), (Iv a1), Zs])) (vl := [(Iv a0), (Iv a1), Zs]) (arr' := [(Iv a0), (Iv a1), Zs]) rfl sz24 rfl rfl (onb rfl) rfl rfl rfl) rfl ?_
 rintro _ _ _ - ⟨rfl, rfl⟩
 refine Nt ?_
 obtain ⟨x23, hj24, h⟩ := bnd h
 refine Jf (fun (x23 : (List T_api_Record)) ρ' M' H' => ∃ vx23 cx23, M.le M' ∧ [(g22, .cells #[(Iv a0), (Iv a1), vx23] 24 (0, 0))] :: [(g21, .cells #[(Iv 0), (Iv 0), Zs] 24 (0, 0))] :: cx23 :: F = H' ∧ ρ' 6 = (pt g21 0) ∧ ρ' 7 = (pt g22 0) ∧ OwnS kd_api_Record M' vx23 x23 cx23) x23 ?_ ?_
 have h324 := h
 have h := hj24
 refine Sr (Pm v2 (hρ 2) rfl (Pu (Iv (a2.length : Int)) (PO.lenS Tryz.underlying22 rfl h2.len) rfl (Pm (Iv 0) rfl rfl (Nt (Bk (WC.e0 (WC.f2 (WC.f2 ?_))))))))
 obtain ⟨e25, he25, hK25⟩ := bnd h
 clear h
 refine WC.loop he25 (fun (p_ : (Int × (List T_api_Record))) ρ' M' H' => match p_ with | (x26, x27) => ∃ vx27 cx27, M.le M' ∧ [(g22, .cells #[(Iv a0), (Iv a1), vx27] 24 (0, 0))] :: [(g21, .cells #[(Iv 0), (Iv 0), Zs] 24 (0, 0))] :: cx27 :: F = H' ∧ ρ' 6 = (pt g21 0) ∧ ρ' 7 = (pt g22 0) ∧ ρ' 13 = v2 ∧ ρ' 14 = (Iv (a2.length : Int)) ∧ ρ' 15 = (Iv x26) ∧ OwnS kd_api_Record M' vx27 x27 cx27) ?_ ?_
 exact ⟨Zs, [], lr, rfl, rfl, rfl, rfl, rfl, rfl, (OwnS.nil _ _)⟩
 rintro ⟨x26, x27⟩ o25 ρ25 M25 H25 h ⟨vx27, cx27, hle25, rfl, hs25_6, hs25_7, hs25_13, hs25_14, hs25_15, hx27⟩
 unfold f_batch_Of_l0 at h
 refine Sr (Pu (Bv (decide (x26 < (a2.length : Int)))) (PO.lss hs25_15 hs25_14) rfl (Nt (Cs (Cd (b := decide (x26 < (a2.length : Int))) rfl (fun hb29 => ?_) (fun hb29 => ?_)))))
 have h := ite_t hb29 h
 refine Ck (Tc (Cs (Bk (Sr ?_))))
 obtain ⟨hg30, h⟩ := grd_i h
 have h2 := h2.mono hle25
 obtain ⟨p31, cs32, hat33, hrc34, hhas35⟩ := h2.at hg30.1 hg30.2 (by decide)
 obtain ⟨vw36_14, vw36_15, vw36_16, vw36_17, rfl, hw36_14, hw36_15, hw36_16, hw36_17⟩ := kd_api_Record_open hrc34
 refine Pu (.pointer (some p31)) (PO.indexAddr (n := a2.length) Tryz.underlying22 sz67 hs25_13 hs25_15 hg30.1 hg30.2 hat33) rfl (Pu (a67_ (rd a2 x26) vw36_14 vw36_15 vw36_16 vw36_17) (PO.loadMA (cs := (l67 (rd a2 x26) vw36_14 vw36_15 vw36_16 vw36_17)) ag67 sz67 rfl hhas35) rfl (We (Al ze67 rfl) rfl ?_))
 rintro _ _ _ - ⟨rfl, g37, rfl, rfl⟩
 refine We (Sg (v := (a67_ (rd a2 x26) vw36_14 vw36_15 vw36_16 vw36_17)) (vl := (l67 (rd a2 x26) vw36_14 vw36_15 vw36_16 vw36_17)) (arr' := (l67 (rd a2 x26) vw36_14 vw36_15 vw36_16 vw36_17)) rfl sz67 rfl rfl (onesOf (Oc rfl (Oc rfl (Oc rfl (Oc rfl (Oc rfl (Oc rfl (Oc rfl (Oc rfl (Oc rfl (Oc rfl (Oc rfl (Oc rfl (Oc rfl (Oc rfl (Oc (RS.one hw36_14) (Oc (RS.one hw36_15) (Oc (RS.one hw36_16) (Oc (RS.one hw36_17) Oz))))))))))))))))))) rfl rfl (by kernel_rfl)) rfl ?_
 rintro _ _ _ - ⟨rfl, rfl⟩
 refine Nt (WC.draw [0, 1, 0, 4, 12, 31, 63, 127] (.pure 0 (.pure 1 (.pure 2 (.alt 3 (.alt 4 (.alt 5 (.pure 6 (.alt 7 .done .none)) .none) .none) .none)))) mixed (by kernel_rfl) (Tp (pt g22 2) rfl (Fa fo24_2 hs25_7 rfl) rfl (Tp vx27 rfl (Lb 1 pl22 rfl rfl rfl) rfl (Tp (a67_ (rd a2 x26) vw36_14 vw36_15 vw36_16 vw36_17) rfl (La (cs := (l67 (rd a2 x26) vw36_14 vw36_15 vw36_16 vw36_17)) 0 ag67 sz67 rfl rfl rfl) rfl ?_))))
 obtain ⟨r38, hr39, h⟩ := bnd h
 refine Ta rfl (Ca co38 (f_batch_one_ok (rd a2 x26) _ _ _ _ _ hw36_14 hw36_15 hw36_16 hw36_17 r38 hr39) (args1 rfl)) rfl ?_ ?_
 rintro _ M40 _ hle41 ⟨_, ⟨vq42_14, cq42_14, vq42_15, cq42_15, vq42_16, cq42_16, vq42_17, cq42_17, rfl, rfl, hq42_14, hq42_15, hq42_16, hq42_17⟩, rfl⟩
 refine ⟨(Sk 1 rfl (Ss rfl (Lb 5 pl22 rfl rfl rfl) rfl (Ss rfl (Fa fo24_2 hs25_7 rfl) rfl trivial))), ?_⟩
 refine WT.a4 (WT.know (fun _ hs => hq42_14.rs hs) (fun hf47 => ?_))
 refine WT.freeze (fun hle46 => ?_)
 have hq42_15 := hq42_15.mono hle46
 refine WT.know (fun _ hs => hq42_15.rs hs) (fun hf52 => ?_)
 refine WT.freeze (fun hle51 => ?_)
 have hq42_16 := hq42_16.mono (hle46.trans hle51)
 refine WT.know (fun _ hs => hq42_16.rs hs) (fun hf57 => ?_)
 refine WT.freeze (fun hle56 => ?_)
 have hq42_17 := hq42_17.mono ((hle46.trans hle51).trans hle56)
 refine WT.know (fun _ hs => hq42_17.rs hs) (fun hf62 => ?_)
 refine WT.freeze (fun hle61 => ?_)
 refine Ta rfl (EO.buildSliceL (cl := (l67 r38 vq42_14 vq42_15 vq42_16 vq42_17)) Tryz.underlying22 iz67 rfl (Pc (a67_ r38 vq42_14 vq42_15 vq42_16 vq42_17) rfl rfl Pz) rfl) rfl ?_ ?_
 rintro _ _ _ - ⟨rfl, g63, rfl, rfl⟩
 have hf47 := hf47.mono ((hle51.trans hle56).trans hle61)
 have hf52 := hf52.mono (hle56.trans hle61)
 have hf57 := hf57.mono hle61
 have h65 : OwnS kd_api_Record ((((M40.add cq42_14).add cq42_15).add cq42_16).add cq42_17) (.slice (some ⟨g63, 0, none⟩) 1 1) [r38] [(g63, .cells (l67 r38 vq42_14 vq42_15 vq42_16 vq42_17).toArray 67 (0, 0))] := OwnS.rows (css := [(l67 r38 vq42_14 vq42_15 vq42_16 vq42_17)]) (Rows.cons (kd_api_Record_mk (x := r38) hf47 hf52 hf57 hf62) Rows.nil) rfl rfl
 refine ⟨(Sk 1 rfl (Ss rfl (Lb 2 pl22 rfl rfl rfl) rfl (Ss rfl (Fa fo24_2 hs25_7 rfl) rfl trivial))), ?_⟩
 obtain ⟨hg69, h⟩ := grd_i h
 refine WT.f4 ?_
 have hx27 := hx27.mono ((((hle41.trans hle46).trans hle51).trans hle56).trans hle61)
 refine Ta rfl (EO.append (dd := kd_api_Record) (xs := x27) (ys := [r38]) Tryz.underlying22 Tryz.underlying22 in67 rfl (appB (by decide) hg69) (by decide) rfl rfl hx27 (h65.src 1 rfl)) rfl ?_ ?_
 rintro v68 _ _ - ⟨rfl, c66, rfl, h67⟩
 refine ⟨(Sl rfl), ?_⟩
 refine Tp (pt g22 2) rfl (Fa fo24_2 hs25_7 rfl) rfl (WT.f3 (Ta rfl (Es v68 [(Iv a0), (Iv a1), v68] h67.cells sz22 rfl rfl (Ow h67) rfl rfl rfl) rfl ?_ ?_))
 rintro _ _ _ - ⟨rfl, rfl⟩
 refine ⟨(Sl rfl), ?_⟩
 refine Ti (Bn (Tc (Cg (Pu (Iv (IntKind.i64.wrap (x26 + 1))) (PO.add hs25_15 rfl) rfl (Pm (Iv (IntKind.i64.wrap (x26 + 1))) rfl rfl (Wz (Qb (Dr (Qb (Dr (Qa ?_)))))))))))
 exact Qb (Qb (WQ.again (IntKind.i64.wrap (x26 + 1), x27 ++ [r38]) (oi h).symm ⟨v68, c66, (((((hle25.trans hle41).trans hle46).trans hle51).trans hle56).trans hle61), rfl, hs25_6, hs25_7, hs25_13, hs25_14, rfl, h67⟩))
 exact Tz
 exact Tz
 exact Tz
 exact Tz
 have h := ite_f hb29 h
 refine WC.exit (WQ.thenE (WQ.leaveE x27 (oi h).symm (fun heq25 => ?_)))
 subst heq25
 have h := hK25
 refine WQ.blockH ?_
 obtain rfl := oi h
 exact Tj ⟨vx27, cx27, hle25, rfl, hs25_6, hs25_7, hx27⟩
 rintro ρ24 M24 H24 ⟨vx23, cx23, hle24, rfl, hs24_6, hs24_7, hx23⟩
 refine Sr (Pu (.agg #[(Iv a0), (Iv a1), vx23]) (La (cs := [(Iv a0), (Iv a1), vx23]) 0 ag24 sz24 hs24_7 rfl rfl) rfl (WL.f1 (We (Sg (v := (.agg #[(Iv a0), (Iv a1), vx23])) (vl := [(Iv a0), (Iv a1), vx23]) (arr' := [(Iv a0), (Iv a1), vx23]) rfl sz24 hs24_6 rfl (onesOf (Oc rfl (Oc rfl (Oc (Ow hx23) Oz)))) rfl rfl rfl) rfl ?_)))
 rintro _ _ _ - ⟨rfl, rfl⟩
 exact Nt (Cr (Qa (Dr (Rd h [cx23] (fun _ hs => hs.drop) (resultsL1 rfl (Rc (cs := [(Iv a0), (Iv a1), vx23]) 0 ag24 sz24 hs24_6 rfl rfl)) hle24 ⟨vx23, cx23, rfl, rfl, hx23⟩))))

noncomputable def f_fault_New (a0 : ByteArray) (a1 : Int) (a2 : Int) : Option GErr :=
  (some (GErr.fault a0 a1 (GErr.code a2)))
def f_fault_New_post (a0 : ByteArray) (a1 : Int) (a2 : Int) : GErr → Value → IM → HL → Prop :=
  fun (r0 : GErr) (v : Value) (M' : IM) (H' : HL) => (GV r0) = v ∧ H' = []
theorem f_fault_New_ok (a0 : ByteArray) (a1 : Int) (a2 : Int) (M : IM) (res : GErr) (h : f_fault_New a0 a1 a2 = some res) :
    Tri Tryz.prog 31 #[(Sv a0), (Iv a1), (Iv a2)] M [] (f_fault_New_post a0 a1 a2 res) := by
 unfold f_fault_New at h
 refine Te Tryz.func31 rfl rfl ?_
 intro F ρ hρ
 refine Sr (Pa (GV GErr.nil) rfl rfl (Ns (Pm (Sv a0) (hρ 0) rfl (Pm (Iv a1) (hρ 1) rfl (Pm (Iv a2) (hρ 2) rfl (Pu (GV (GErr.code a2)) (PO.makeInterface cc31 rfl) rfl (Pu (.agg #[(Sv a0), (Iv a1), (GV (GErr.code a2))]) (Bl (cl := [(Sv a0), (Iv a1), (GV (GErr.code a2))]) ze94 fp94 (Pc (Sv a0) rfl rfl (Pc (Iv a1) rfl rfl (Parts.cons ((congrArg Value.cells (show ev _ _ = (GV (GErr.code a2)) from rfl)).trans (GErr.val_cells _ _ _ _)) Pz))) rfl) rfl (Pu (GV (GErr.fault a0 a1 (GErr.code a2))) (PO.makeInterface cc94 rfl) rfl (Pa (GV (GErr.fault a0 a1 (GErr.code a2))) rfl rfl (Nt (Cr ?_)))))))))))
 exact Rf h [] rfl (Rs rfl rfl) lr ⟨rfl, rfl⟩

noncomputable def f_record_about (a0 : Int) : Option Int :=
  (if (decide (a0 = (2 : Int))) = true then (some (1027 : Int)) else (((if (decide (a0 = (3 : Int))) = true then (some (decide (a0 = (3 : Int)))) else (if (decide (a0 = (4 : Int))) = true then (some (decide (a0 = (4 : Int)))) else (if (decide (a0 = (5 : Int))) = true then (some (decide (a0 = (5 : Int)))) else (some (decide (a0 = (6 : Int))))))) : Option Bool).bind fun (x22 : Bool) => (if x22 = true then (some (3 : Int)) else (if (decide (a0 = (7 : Int))) = true then (some (132 : Int)) else (if (decide (a0 = (8 : Int))) = true then (some (6172 : Int)) else (if (decide (a0 = (9 : Int))) = true then (some (14366 : Int)) else (if (decide (a0 = (10 : Int))) = true then (some (836 : Int)) else (if (decide (a0 = (11 : Int))) = true then (some (4 : Int)) else (if (decide (a0 = (12 : Int))) = true then (some (32 : Int)) else (some (0 : Int)))))))))))
def f_record_about_post (a0 : Int) : Int → Value → IM → HL → Prop :=
  fun (r0 : Int) (v : Value) (M' : IM) (H' : HL) => (.int .i64 r0) = v ∧ H' = []
theorem f_record_about_ok (a0 : Int) (M : IM) (res : Int) (h : f_record_about a0 = some res) :
    Tri Tryz.prog 54 #[(Iv a0)] M [] (f_record_about_post a0 res) := by
 unfold f_record_about at h
 refine Te Tryz.func54 rfl rfl ?_
 intro F ρ hρ
 refine Sr (Pa (Iv 0) rfl rfl (Nt (Cs (Sr (Pm (Iv a0) (hρ 0) rfl (Nt (Bk (Sr (Pu (Bv (decide (a0 = 2))) (PO.eql rfl rfl) rfl (Pa (Bv (decide (a0 = 2))) rfl rfl (Nt ?_)))))))))))
 refine Cd (b := decide (a0 = 2)) rfl (fun hb21 => ?_) (fun hb21 => ?_)
 have h := ite_t hb21 h
 exact Sr (Pa (Iv 1027) rfl rfl (Nt (Cr (Br (Tr (Rf h [] rfl (Rs rfl rfl) lr ⟨rfl, rfl⟩))))))
 have h := ite_f hb21 h
 obtain ⟨x22, hj23, h⟩ := bnd h
 refine Jf (fun (x22 : Bool) ρ' M' H' => M.le M' ∧ F = H' ∧ ρ' 3 = (Iv a0) ∧ ρ' 6 = (Bv x22)) x22 ?_ ?_
 have h323 := h
 have h := hj23
 refine Sr (Pu (Bv (decide (a0 = 3))) (PO.eql rfl rfl) rfl (Pa (Bv (decide (a0 = 3))) rfl rfl (Nt (Cd (b := decide (a0 = 3)) rfl (fun hb24 => ?_) (fun hb24 => ?_)))))
 have h := ite_t hb24 h
 refine Ck ?_
 obtain rfl := oi h
 exact Tj ⟨lr, rfl, rfl, rfl⟩
 have h := ite_f hb24 h
 refine Sr (Pu (Bv (decide (a0 = 4))) (PO.eql rfl rfl) rfl (Pa (Bv (decide (a0 = 4))) rfl rfl (Nt (Cd (b := decide (a0 = 4)) rfl (fun hb25 => ?_) (fun hb25 => ?_)))))
 have h := ite_t hb25 h
 refine Ck ?_
 obtain rfl := oi h
 exact Tj ⟨lr, rfl, rfl, rfl⟩
 have h := ite_f hb25 h
 refine Sr (Pu (Bv (decide (a0 = 5))) (PO.eql rfl rfl) rfl (Pa (Bv (decide (a0 = 5))) rfl rfl (Nt (Cd (b := decide (a0 = 5)) rfl (fun hb26 => ?_) (fun hb26 => ?_)))))
 have h := ite_t hb26 h
 refine Ck ?_
 obtain rfl := oi h
 exact Tj ⟨lr, rfl, rfl, rfl⟩
 have h := ite_f hb26 h
 refine Cg (Pu (Bv (decide (a0 = 6))) (PO.eql rfl rfl) rfl (Pa (Bv (decide (a0 = 6))) rfl rfl (Wz ?_)))
 obtain rfl := oi h
 exact Tj ⟨lr, rfl, rfl, rfl⟩
 rintro ρ23 M23 H23 ⟨hle23, rfl, hs23_3, hs23_6⟩
 refine Cd (b := x22) hs23_6 (fun hb27 => ?_) (fun hb27 => ?_)
 have h := ite_t hb27 h
 exact Sr (Pa (Iv 3) rfl rfl (Nt (Cr (Br (Tr (Rf h [] rfl (Rs rfl rfl) hle23 ⟨rfl, rfl⟩))))))
 have h := ite_f hb27 h
 refine Sr (Pu (Bv (decide (a0 = 7))) (PO.eql hs23_3 rfl) rfl (Pa (Bv (decide (a0 = 7))) rfl rfl (Nt (Cd (b := decide (a0 = 7)) rfl (fun hb28 => ?_) (fun hb28 => ?_)))))
 have h := ite_t hb28 h
 exact Sr (Pa (Iv 132) rfl rfl (Nt (Cr (Br (Tr (Rf h [] rfl (Rs rfl rfl) hle23 ⟨rfl, rfl⟩))))))
 have h := ite_f hb28 h
 refine Sr (Pu (Bv (decide (a0 = 8))) (PO.eql hs23_3 rfl) rfl (Pa (Bv (decide (a0 = 8))) rfl rfl (Nt (Cd (b := decide (a0 = 8)) rfl (fun hb29 => ?_) (fun hb29 => ?_)))))
 have h := ite_t hb29 h
 exact Sr (Pa (Iv 6172) rfl rfl (Nt (Cr (Br (Tr (Rf h [] rfl (Rs rfl rfl) hle23 ⟨rfl, rfl⟩))))))
 have h := ite_f hb29 h
 refine Sr (Pu (Bv (decide (a0 = 9))) (PO.eql hs23_3 rfl) rfl (Pa (Bv (decide (a0 = 9))) rfl rfl (Nt (Cd (b := decide (a0 = 9)) rfl (fun hb30 => ?_) (fun hb30 => ?_)))))
 have h := ite_t hb30 h
 exact Sr (Pa (Iv 14366) rfl rfl (Nt (Cr (Br (Tr (Rf h [] rfl (Rs rfl rfl) hle23 ⟨rfl, rfl⟩))))))
 have h := ite_f hb30 h
 refine Sr (Pu (Bv (decide (a0 = 10))) (PO.eql hs23_3 rfl) rfl (Pa (Bv (decide (a0 = 10))) rfl rfl (Nt (Cd (b := decide (a0 = 10)) rfl (fun hb31 => ?_) (fun hb31 => ?_)))))
 have h := ite_t hb31 h
 exact Sr (Pa (Iv 836) rfl rfl (Nt (Cr (Br (Tr (Rf h [] rfl (Rs rfl rfl) hle23 ⟨rfl, rfl⟩))))))
 have h := ite_f hb31 h
 refine Sr (Pu (Bv (decide (a0 = 11))) (PO.eql hs23_3 rfl) rfl (Pa (Bv (decide (a0 = 11))) rfl rfl (Nt (Cd (b := decide (a0 = 11)) rfl (fun hb32 => ?_) (fun hb32 => ?_)))))
 have h := ite_t hb32 h
 exact Sr (Pa (Iv 4) rfl rfl (Nt (Cr (Br (Tr (Rf h [] rfl (Rs rfl rfl) hle23 ⟨rfl, rfl⟩))))))
 have h := ite_f hb32 h
 refine Sr (Pu (Bv (decide (a0 = 12))) (PO.eql hs23_3 rfl) rfl (Pa (Bv (decide (a0 = 12))) rfl rfl (Nt (Cd (b := decide (a0 = 12)) rfl (fun hb33 => ?_) (fun hb33 => ?_)))))
 have h := ite_t hb33 h
 exact Sr (Pa (Iv 32) rfl rfl (Nt (Cr (Br (Tr (Rf h [] rfl (Rs rfl rfl) hle23 ⟨rfl, rfl⟩))))))
 have h := ite_f hb33 h
 exact Ck (Bn (Tc (Sr (Pa (Iv 0) rfl rfl (Nt (Cr (Rf h [] rfl (Rs rfl rfl) hle23 ⟨rfl, rfl⟩)))))))

noncomputable def f_record_Check_1 (a0 : Int) (a1 : T_api_Record) : Option Bool :=
  ((f_record_about a1.Kind).bind fun (r21 : Int) => (some (decide ((andI .i64 r21 a0) ≠ (0 : Int)))))
def f_record_Check_1_post (a0 : Int) (a1 : T_api_Record) (v1_14 v1_15 v1_16 v1_17 : Value) (g1 : Nat) : Bool → Value → IM → HL → Prop :=
  fun (r0 : Bool) (v : Value) (M' : IM) (H' : HL) => (.bool r0) = v ∧ H' = [[(g1, .cells #[(.int .i64 a1.Kind), (.int .i64 a1.Broker), (.int .i64 a1.Epoch), (.int .i64 a1.Topic), (.int .i64 a1.Part), (.int .i64 a1.Leader), (.int .i64 a1.Client), (.int .i64 a1.Serial), (.int .i64 a1.Code), (.bool a1.Flag), (.string a1.Name), (.string a1.Key), (.string a1.Value), (.string a1.Rack), v1_14, v1_15, v1_16, v1_17] 67 (0, 0))]]
theorem f_record_Check_1_ok (a0 : Int) (a1 : T_api_Record) (M : IM) (v1_14 v1_15 v1_16 v1_17 : Value) (g1 : Nat) (h1_14 : RS (Kd.int .i64) M v1_14 a1.Ids) (h1_15 : RS (Kd.int .i64) M v1_15 a1.Isr) (h1_16 : RS (Kd.int .i64) M v1_16 a1.Add) (h1_17 : RS (Kd.int .i64) M v1_17 a1.Drop) (res : Bool) (h : f_record_Check_1 a0 a1 = some res) :
    Tri Tryz.prog 53 #[(Iv a0), (pt g1 0)] M [[(g1, .cells (l67 a1 v1_14 v1_15 v1_16 v1_17).toArray 67 (0, 0))]] (f_record_Check_1_post a0 a1 v1_14 v1_15 v1_16 v1_17 g1 res) := by
 unfold f_record_Check_1 at h
 refine Te Tryz.func53 rfl rfl ?_
 intro F ρ hρ
 refine Sr (Pa (Bv false) rfl rfl (Ns (Pu (pt g1 0) (Fa fo67_0 (hρ 1) rfl) rfl (Pu (Iv a1.Kind) (Lb 0 pl3 rfl rfl rfl) rfl ?_))))
 obtain ⟨r21, hr22, h⟩ := bnd h
 refine We (Ca co54 (f_record_about_ok a1.Kind _ r21 hr22) (args1 rfl)) rfl ?_
 rintro _ M23 _ hle24 ⟨_, ⟨rfl, rfl⟩, rfl⟩
 exact WL.a0 (Pm (Iv a0) (hρ 0) rfl (Pu (Iv (andI .i64 r21 a0)) (PO.and rfl rfl) rfl (Pu (Bv (decide ((andI .i64 r21 a0) ≠ 0))) (PO.neq rfl rfl) rfl (Pa (Bv (decide ((andI .i64 r21 a0) ≠ 0))) rfl rfl (Nt (Cr (Rf h [[(g1, .cells (l67 a1 v1_14 v1_15 v1_16 v1_17).toArray 67 (0, 0))]] rfl (Rs rfl rfl) hle24 ⟨rfl, rfl⟩)))))))

noncomputable def f_record_number (a0 : Int) (a1 : Bool) (a2 : Int) (a3 : Int) : Option Bool :=
  (if (!a1) = true then (some (decide (a0 = (0 : Int)))) else (((if (decide (a2 ≤ a0)) = true then (some (decide (a0 ≤ a3))) else (some false)) : Option Bool).bind fun (x22 : Bool) => (some x22)))
def f_record_number_post (a0 : Int) (a1 : Bool) (a2 : Int) (a3 : Int) : Bool → Value → IM → HL → Prop :=
  fun (r0 : Bool) (v : Value) (M' : IM) (H' : HL) => (.bool r0) = v ∧ H' = []
theorem f_record_number_ok (a0 : Int) (a1 : Bool) (a2 : Int) (a3 : Int) (M : IM) (res : Bool) (h : f_record_number a0 a1 a2 a3 = some res) :
    Tri Tryz.prog 56 #[(Iv a0), (Bv a1), (Iv a2), (Iv a3)] M [] (f_record_number_post a0 a1 a2 a3 res) := by
 unfold f_record_number at h
 refine Te Tryz.func56 rfl rfl ?_
 intro F ρ hρ
 refine Sr (Pa (Bv false) rfl rfl (Nt (Cs (Sr (Pm (Bv a1) (hρ 1) rfl (Pu (Bv (!a1)) (PO.not rfl) rfl (Nt (Cd (b := !a1) rfl (fun hb21 => ?_) (fun hb21 => ?_)))))))))
 have h := ite_t hb21 h
 exact Sr (Pm (Iv a0) (hρ 0) rfl (Pu (Bv (decide (a0 = 0))) (PO.eql rfl rfl) rfl (Pa (Bv (decide (a0 = 0))) rfl rfl (Nt (Cr (Tr (Rf h [] rfl (Rs rfl rfl) lr ⟨rfl, rfl⟩)))))))
 have h := ite_f hb21 h
 refine Ck (Tc ?_)
 obtain ⟨x22, hj23, h⟩ := bnd h
 refine Jf (fun (x22 : Bool) ρ' M' H' => M.le M' ∧ F = H' ∧ ρ' 8 = (Bv x22)) x22 ?_ ?_
 have h323 := h
 have h := hj23
 refine Cg (Pm (Iv a0) (hρ 0) rfl (Pm (Iv a2) (hρ 2) rfl (Pu (Bv (decide (a2 ≤ a0))) (PO.geq rfl rfl) rfl (Pm (Bv (decide (a2 ≤ a0))) rfl rfl ?_))))
 rcases Bt (decide (a2 ≤ a0)) with hb24 | hb24
 have h := ite_t hb24 h
 refine On 16 rfl rfl hb24 (Pm (Iv a0) (hρ 0) rfl (On 16 rfl rfl hb24 (Pm (Iv a3) (hρ 3) rfl (On 16 rfl rfl hb24 (Pu (Bv (decide (a0 ≤ a3))) (PO.leq rfl rfl) rfl (Pu (Bv (decide (a0 ≤ a3))) (Pt rfl hb24 rfl) rfl (Pa (Bv (decide (a0 ≤ a3))) rfl rfl (Wz ?_))))))))
 obtain rfl := oi h
 exact Tj ⟨lr, rfl, rfl⟩
 have h := ite_f hb24 h
 iterate 3 refine Of 16 rfl rfl hb24 rfl ?_
 refine Pu (Bv false) (Pf rfl hb24 rfl) rfl (Pa (Bv false) rfl rfl (Wz ?_))
 obtain rfl := oi h
 exact Tj ⟨lr, rfl, rfl⟩
 rintro ρ23 M23 H23 ⟨hle23, rfl, hs23_8⟩
 exact Cr (Rf h [] rfl (Rs rfl hs23_8) hle23 ⟨rfl, rfl⟩)

noncomputable def f_record_Name_l0 (a0 : ByteArray) (s_ : Int) : Option (Int ⊕ (Unit ⊕ Unit)) :=
  match s_ with
  | x32 =>
    (if (decide (x32 < ((bytesOf a0).length : Int))) = true then (grd (0 ≤ x32 ∧ x32 < (bytesOf a0).length) (((if (decide ((97 : Int) ≤ (rd (bytesOf a0) x32))) = true then (if (decide ((48 : Int) ≤ (rd (bytesOf a0) x32))) = true then (some (decide ((rd (bytesOf a0) x32) ≤ (122 : Int)), decide ((rd (bytesOf a0) x32) ≤ (57 : Int)))) else (some (decide ((rd (bytesOf a0) x32) ≤ (122 : Int)), false))) else (if (decide ((48 : Int) ≤ (rd (bytesOf a0) x32))) = true then (some (false, decide ((rd (bytesOf a0) x32) ≤ (57 : Int)))) else (some (false, false)))) : Option (Bool × Bool)).bind fun (x41, x42) => (((if (!x41) = true then (if (!x42) = true then (if (decide ((rd (bytesOf a0) x32) ≠ (46 : Int))) = true then (some (decide ((rd (bytesOf a0) x32) ≠ (45 : Int)))) else (some false)) else (some false)) else (some false)) : Option Bool).bind fun (x47 : Bool) => (if x47 = true then (some (Sum.inr (Sum.inr ()))) else (some (Sum.inl (IntKind.i64.wrap (x32 + (1 : Int))))))))) else (some (Sum.inr (Sum.inl ()))))
noncomputable def f_record_Name (a0 : ByteArray) : Option Bool :=
  (((if (decide (a0 = (⟨#[]⟩ : ByteArray))) = true then (some true) else (if (decide ((40 : Int) < (a0.size : Int))) = true then (some true) else (if (decide (a0 = (⟨#[46]⟩ : ByteArray))) = true then (some true) else (some (decide (a0 = (⟨#[46, 46]⟩ : ByteArray))))))) : Option Bool).bind fun (x21 : Bool) => (if x21 = true then (some false) else ((((iter (f_record_Name_l0 a0) (0 : Int)).bind (Sum.elim (fun _ => (some (Sum.inl ()))) (fun _ => (((some false)).bind fun r => some (Sum.inr r))))) : Option (Unit ⊕ Bool)).bind (Sum.elim (fun _ => (some true)) some))))
def f_record_Name_post (a0 : ByteArray) : Bool → Value → IM → HL → Prop :=
  fun (r0 : Bool) (v : Value) (M' : IM) (H' : HL) => (.bool r0) = v ∧ H' = []
theorem f_record_Name_ok (a0 : ByteArray) (M : IM) (res : Bool) (h : f_record_Name a0 = some res) :
    Tri Tryz.prog 58 #[(Sv a0)] M [] (f_record_Name_post a0 res) := by
 unfold f_record_Name at h
 refine Te Tryz.func58 rfl rfl ?_
 intro F ρ hρ
 refine Sr (Pa (Bv false) rfl rfl (Nt (Cs ?_)))
 obtain ⟨x21, hj22, h⟩ := bnd h
 refine Jf (fun (x21 : Bool) ρ' M' H' => M.le M' ∧ F = H' ∧ ρ' 0 = (Sv a0) ∧ ρ' 21 = (Bv x21)) x21 ?_ ?_
 have h322 := h
 have h := hj22
 refine Cg (Pm (Sv a0) (hρ 0) rfl (Pu (Bv (decide (a0 = (⟨#[]⟩ : ByteArray)))) (PO.seql rfl rfl) rfl (Pm (Bv (decide (a0 = (⟨#[]⟩ : ByteArray)))) rfl rfl ?_)))
 rcases Bt (decide (a0 = (⟨#[]⟩ : ByteArray))) with hb23 | hb23
 have h := ite_t hb23 h
 iterate 3 refine Of 9 rfl rfl hb23 rfl ?_
 refine Pu (Bv true) (Pt rfl hb23 rfl) rfl (Pm (Bv true) rfl rfl ?_)
 iterate 2 refine Of 14 rfl rfl rfl rfl ?_
 refine Pu (Bv true) (Pt rfl rfl rfl) rfl (Pm (Bv true) rfl rfl ?_)
 iterate 2 refine Of 18 rfl rfl rfl rfl ?_
 refine Pu (Bv true) (Pt rfl rfl rfl) rfl (Wz ?_)
 obtain rfl := oi h
 exact Tj ⟨lr, rfl, (hρ 0), rfl⟩
 have h := ite_f hb23 h
 refine On 9 rfl rfl hb23 (Pm (Sv a0) (hρ 0) rfl (On 9 rfl rfl hb23 (Pu (Iv (a0.size : Int)) (PO.lenStr Tryz.underlying9 rfl) rfl (On 9 rfl rfl hb23 (Pu (Bv (decide ((40 : Int) < (a0.size : Int)))) (PO.gtr rfl rfl) rfl (Pu (Bv (decide ((40 : Int) < (a0.size : Int)))) (Pf rfl hb23 rfl) rfl (Pm (Bv (decide ((40 : Int) < (a0.size : Int)))) rfl rfl ?_)))))))
 rcases Bt (decide ((40 : Int) < (a0.size : Int))) with hb24 | hb24
 have h := ite_t hb24 h
 iterate 2 refine Of 14 rfl rfl hb24 rfl ?_
 refine Pu (Bv true) (Pt rfl hb24 rfl) rfl (Pm (Bv true) rfl rfl ?_)
 iterate 2 refine Of 18 rfl rfl rfl rfl ?_
 refine Pu (Bv true) (Pt rfl rfl rfl) rfl (Wz ?_)
 obtain rfl := oi h
 exact Tj ⟨lr, rfl, (hρ 0), rfl⟩
 have h := ite_f hb24 h
 refine On 14 rfl rfl hb24 (Pm (Sv a0) (hρ 0) rfl (On 14 rfl rfl hb24 (Pu (Bv (decide (a0 = (⟨#[46]⟩ : ByteArray)))) (PO.seql rfl rfl) rfl (Pu (Bv (decide (a0 = (⟨#[46]⟩ : ByteArray)))) (Pf rfl hb24 rfl) rfl (Pm (Bv (decide (a0 = (⟨#[46]⟩ : ByteArray)))) rfl rfl ?_)))))
 rcases Bt (decide (a0 = (⟨#[46]⟩ : ByteArray))) with hb25 | hb25
 have h := ite_t hb25 h
 iterate 2 refine Of 18 rfl rfl hb25 rfl ?_
 refine Pu (Bv true) (Pt rfl hb25 rfl) rfl (Wz ?_)
 obtain rfl := oi h
 exact Tj ⟨lr, rfl, (hρ 0), rfl⟩
 have h := ite_f hb25 h
 refine On 18 rfl rfl hb25 (Pm (Sv a0) (hρ 0) rfl (On 18 rfl rfl hb25 (Pu (Bv (decide (a0 = (⟨#[46, 46]⟩ : ByteArray)))) (PO.seql rfl rfl) rfl (Pu (Bv (decide (a0 = (⟨#[46, 46]⟩ : ByteArray)))) (Pf rfl hb25 rfl) rfl (Wz ?_)))))
 obtain rfl := oi h
 exact Tj ⟨lr, rfl, (hρ 0), rfl⟩
 rintro ρ22 M22 H22 ⟨hle22, rfl, hs22_0, hs22_21⟩
 refine Cd (b := x21) hs22_21 (fun hb26 => ?_) (fun hb26 => ?_)
 have h := ite_t hb26 h
 exact Sr (Pa (Bv false) rfl rfl (Nt (Cr (Tr (Rf h [] rfl (Rs rfl rfl) hle22 ⟨rfl, rfl⟩)))))
 have h := ite_f hb26 h
 refine Ck (Tc ?_)
 obtain ⟨j27, hj27, h⟩ := bnd h
 refine WC.joinE (fun (_ : Unit) ρ' M' H' => M22.le M' ∧ F = H') j27 ?_ ?_
 have h327 := h
 have h := hj27
 refine Sr (Pm (Sv a0) hs22_0 rfl (We (EO.s2b Tryz.underlying9 Tryz.underlying40 Tryz.underlying5 rfl) rfl ?_))
 rintro v30 _ _ - ⟨rfl, c28, rfl, h29⟩
 refine Pu (Iv ((bytesOf a0).length : Int)) (PO.lenS Tryz.underlying40 rfl h29.len) rfl (Pm (Iv 0) rfl rfl (Nt (Bk ?_)))
 obtain ⟨e31, he31, hK31⟩ := bnd h
 clear h
 refine WC.loop he31 (fun (x32 : Int) ρ' M' H' => M22.le M' ∧ c28 :: F = H' ∧ ρ' 23 = v30 ∧ ρ' 24 = (Iv ((bytesOf a0).length : Int)) ∧ ρ' 25 = (Iv x32)) ?_ ?_
 exact ⟨lr, rfl, rfl, rfl, rfl⟩
 rintro x32 o31 ρ31 M31 H31 h ⟨hle31, rfl, hs31_23, hs31_24, hs31_25⟩
 unfold f_record_Name_l0 at h
 refine Sr (Pu (Bv (decide (x32 < ((bytesOf a0).length : Int)))) (PO.lss hs31_25 hs31_24) rfl (Nt (Cs (Cd (b := decide (x32 < ((bytesOf a0).length : Int))) rfl (fun hb33 => ?_) (fun hb33 => ?_)))))
 have h := ite_t hb33 h
 refine Ck (Tc (Cs (Bk (Sr ?_))))
 obtain ⟨hg34, h⟩ := grd_i h
 have h29 := h29.mono hle31
 obtain ⟨p35, cs36, hat37, hrc38, hhas39⟩ := h29.at hg34.1 hg34.2
 obtain rfl := hrc38
 refine Pu (.pointer (some p35)) (PO.indexAddr (n := (bytesOf a0).length) Tryz.underlying40 sz5 hs31_23 hs31_25 hg34.1 hg34.2 hat37) rfl (Pu (Yv (rd (bytesOf a0) x32)) (PO.loadC 0 pl5 rfl rfl (chunkHas0 hhas39)) rfl (Pa (Yv (rd (bytesOf a0) x32)) rfl rfl (Nt ?_)))
 obtain ⟨j43, hj43, h⟩ := bnd h
 refine Jf (fun (p_ : (Bool × Bool)) ρ' M' H' => match p_ with | (x41, x42) => M31.le M' ∧ c28 :: F = H' ∧ ρ' 4 = (Yv (rd (bytesOf a0) x32)) ∧ ρ' 5 = (Bv x41) ∧ ρ' 6 = (Bv x42) ∧ ρ' 23 = v30 ∧ ρ' 24 = (Iv ((bytesOf a0).length : Int)) ∧ ρ' 25 = (Iv x32)) j43 ?_ ?_
 have h343 := h
 have h := hj43
 refine Cg (Pm (Yv (rd (bytesOf a0) x32)) rfl rfl (Pu (Bv (decide ((97 : Int) ≤ (rd (bytesOf a0) x32)))) (PO.geq rfl rfl) rfl (Pm (Bv (decide ((97 : Int) ≤ (rd (bytesOf a0) x32)))) rfl rfl ?_)))
 rcases Bt (decide ((97 : Int) ≤ (rd (bytesOf a0) x32))) with hb44 | hb44
 have h := ite_t hb44 h
 refine On 31 rfl rfl hb44 (Pm (Yv (rd (bytesOf a0) x32)) rfl rfl (On 31 rfl rfl hb44 (Pu (Bv (decide ((rd (bytesOf a0) x32) ≤ 122))) (PO.leq rfl rfl) rfl (Pu (Bv (decide ((rd (bytesOf a0) x32) ≤ 122))) (Pt rfl hb44 rfl) rfl (Pm (Yv (rd (bytesOf a0) x32)) rfl rfl (Pu (Bv (decide ((48 : Int) ≤ (rd (bytesOf a0) x32)))) (PO.geq rfl rfl) rfl (Pm (Bv (decide ((48 : Int) ≤ (rd (bytesOf a0) x32)))) rfl rfl ?_)))))))
 rcases Bt (decide ((48 : Int) ≤ (rd (bytesOf a0) x32))) with hb45 | hb45
 have h := ite_t hb45 h
 refine On 37 rfl rfl hb45 (Pm (Yv (rd (bytesOf a0) x32)) rfl rfl (On 37 rfl rfl hb45 (Pu (Bv (decide ((rd (bytesOf a0) x32) ≤ 57))) (PO.leq rfl rfl) rfl (Pu (Bv (decide ((rd (bytesOf a0) x32) ≤ 57))) (Pt rfl hb45 rfl) rfl (Pa (Bv (decide ((rd (bytesOf a0) x32) ≤ 122))) rfl rfl (Pa (Bv (decide ((rd (bytesOf a0) x32) ≤ 57))) rfl rfl (Wz ?_)))))))
 obtain rfl := oi h
 exact Tj ⟨lr, rfl, rfl, rfl, rfl, hs31_23, hs31_24, hs31_25⟩
 have h := ite_f hb45 h
 iterate 2 refine Of 37 rfl rfl hb45 rfl ?_
 refine Pu (Bv false) (Pf rfl hb45 rfl) rfl (Pa (Bv (decide ((rd (bytesOf a0) x32) ≤ 122))) rfl rfl (Pa (Bv false) rfl rfl (Wz ?_)))
 obtain rfl := oi h
 exact Tj ⟨lr, rfl, rfl, rfl, rfl, hs31_23, hs31_24, hs31_25⟩
 have h := ite_f hb44 h
 iterate 2 refine Of 31 rfl rfl hb44 rfl ?_
 refine Pu (Bv false) (Pf rfl hb44 rfl) rfl (Pm (Yv (rd (bytesOf a0) x32)) rfl rfl (Pu (Bv (decide ((48 : Int) ≤ (rd (bytesOf a0) x32)))) (PO.geq rfl rfl) rfl (Pm (Bv (decide ((48 : Int) ≤ (rd (bytesOf a0) x32)))) rfl rfl ?_)))
 rcases Bt (decide ((48 : Int) ≤ (rd (bytesOf a0) x32))) with hb46 | hb46
 have h := ite_t hb46 h
 refine On 37 rfl rfl hb46 (Pm (Yv (rd (bytesOf a0) x32)) rfl rfl (On 37 rfl rfl hb46 (Pu (Bv (decide ((rd (bytesOf a0) x32) ≤ 57))) (PO.leq rfl rfl) rfl (Pu (Bv (decide ((rd (bytesOf a0) x32) ≤ 57))) (Pt rfl hb46 rfl) rfl (Pa (Bv false) rfl rfl (Pa (Bv (decide ((rd (bytesOf a0) x32) ≤ 57))) rfl rfl (Wz ?_)))))))
 obtain rfl := oi h
 exact Tj ⟨lr, rfl, rfl, rfl, rfl, hs31_23, hs31_24, hs31_25⟩
 have h := ite_f hb46 h
 iterate 2 refine Of 37 rfl rfl hb46 rfl ?_
 refine Pu (Bv false) (Pf rfl hb46 rfl) rfl (Pa (Bv false) rfl rfl (Pa (Bv false) rfl rfl (Wz ?_)))
 obtain rfl := oi h
 exact Tj ⟨lr, rfl, rfl, rfl, rfl, hs31_23, hs31_24, hs31_25⟩
 obtain ⟨x41, x42⟩ := j43
 rintro ρ43 M43 H43 ⟨hle43, rfl, hs43_4, hs43_5, hs43_6, hs43_23, hs43_24, hs43_25⟩
 obtain ⟨x47, hj48, h⟩ := bnd h
 refine Jf (fun (x47 : Bool) ρ' M' H' => M43.le M' ∧ c28 :: F = H' ∧ ρ' 23 = v30 ∧ ρ' 24 = (Iv ((bytesOf a0).length : Int)) ∧ ρ' 25 = (Iv x32) ∧ ρ' 54 = (Bv x47)) x47 ?_ ?_
 have h348 := h
 have h := hj48
 refine Cg (Pm (Bv x41) hs43_5 rfl (Pu (Bv (!x41)) (PO.not rfl) rfl (Pm (Bv (!x41)) rfl rfl ?_)))
 rcases Bt (!x41) with hb49 | hb49
 have h := ite_t hb49 h
 refine On 43 rfl rfl hb49 (Pm (Bv x42) hs43_6 rfl (On 43 rfl rfl hb49 (Pu (Bv (!x42)) (PO.not rfl) rfl (Pu (Bv (!x42)) (Pt rfl hb49 rfl) rfl (Pm (Bv (!x42)) rfl rfl ?_)))))
 rcases Bt (!x42) with hb50 | hb50
 have h := ite_t hb50 h
 refine On 47 rfl rfl hb50 (Pm (Yv (rd (bytesOf a0) x32)) hs43_4 rfl (On 47 rfl rfl hb50 (Pu (Bv (decide ((rd (bytesOf a0) x32) ≠ 46))) (PO.neq rfl rfl) rfl (Pu (Bv (decide ((rd (bytesOf a0) x32) ≠ 46))) (Pt rfl hb50 rfl) rfl (Pm (Bv (decide ((rd (bytesOf a0) x32) ≠ 46))) rfl rfl ?_)))))
 rcases Bt (decide ((rd (bytesOf a0) x32) ≠ 46)) with hb51 | hb51
 have h := ite_t hb51 h
 refine On 51 rfl rfl hb51 (Pm (Yv (rd (bytesOf a0) x32)) hs43_4 rfl (On 51 rfl rfl hb51 (Pu (Bv (decide ((rd (bytesOf a0) x32) ≠ 45))) (PO.neq rfl rfl) rfl (Pu (Bv (decide ((rd (bytesOf a0) x32) ≠ 45))) (Pt rfl hb51 rfl) rfl (Wz ?_)))))
 obtain rfl := oi h
 exact Tj ⟨lr, rfl, hs43_23, hs43_24, hs43_25, rfl⟩
 have h := ite_f hb51 h
 iterate 2 refine Of 51 rfl rfl hb51 rfl ?_
 refine Pu (Bv false) (Pf rfl hb51 rfl) rfl (Wz ?_)
 obtain rfl := oi h
 exact Tj ⟨lr, rfl, hs43_23, hs43_24, hs43_25, rfl⟩
 have h := ite_f hb50 h
 iterate 2 refine Of 47 rfl rfl hb50 rfl ?_
 refine Pu (Bv false) (Pf rfl hb50 rfl) rfl (Pm (Bv false) rfl rfl ?_)
 iterate 2 refine Of 51 rfl rfl rfl rfl ?_
 refine Pu (Bv false) (Pf rfl rfl rfl) rfl (Wz ?_)
 obtain rfl := oi h
 exact Tj ⟨lr, rfl, hs43_23, hs43_24, hs43_25, rfl⟩
 have h := ite_f hb49 h
 iterate 2 refine Of 43 rfl rfl hb49 rfl ?_
 refine Pu (Bv false) (Pf rfl hb49 rfl) rfl (Pm (Bv false) rfl rfl ?_)
 iterate 2 refine Of 47 rfl rfl rfl rfl ?_
 refine Pu (Bv false) (Pf rfl rfl rfl) rfl (Pm (Bv false) rfl rfl ?_)
 iterate 2 refine Of 51 rfl rfl rfl rfl ?_
 refine Pu (Bv false) (Pf rfl rfl rfl) rfl (Wz ?_)
 obtain rfl := oi h
 exact Tj ⟨lr, rfl, hs43_23, hs43_24, hs43_25, rfl⟩
 rintro ρ48 M48 H48 ⟨hle48, rfl, hs48_23, hs48_24, hs48_25, hs48_54⟩
 refine Cd (b := x47) hs48_54 (fun hb52 => ?_) (fun hb52 => ?_)
 have h := ite_t hb52 h
 refine Sr (Pa (Bv false) rfl rfl (Nt (Cr (Br (Tr (WQ.leaveR (Sum.inr ()) (oi h).symm (fun heq31 => ?_)))))))
 subst heq31
 have h := (elimR hK31)
 refine Br (Tr ?_)
 have h := KK.early h h327
 exact Dr (Rf h [] rfl (Rs rfl rfl) (((hle22.trans hle31).trans hle43).trans hle48) ⟨rfl, rfl⟩)
 have h := ite_f hb52 h
 exact Ck (Bn (Tc (Cg (Pu (Iv (IntKind.i64.wrap (x32 + 1))) (PO.add hs48_25 rfl) rfl (Pm (Iv (IntKind.i64.wrap (x32 + 1))) rfl rfl (Wz (WQ.again (IntKind.i64.wrap (x32 + 1)) (oi h).symm ⟨((hle31.trans hle43).trans hle48), rfl, hs48_23, hs48_24, rfl⟩)))))))
 have h := ite_f hb33 h
 refine WC.exit (WQ.thenE (WQ.leaveE (Sum.inl ()) (oi h).symm (fun heq31 => ?_)))
 subst heq31
 have h := elimL hK31
 exact WQ.blockH (Dr (WQ.thenFE h ⟨hle31, rfl⟩))
 rintro _ ρ27 M27 H27 rfl ⟨hle27, rfl⟩
 have h := (Sum.elim_inl _ _ _).symm.trans h
 exact Sr (Pa (Bv true) rfl rfl (Nt (Cr (Rf h [] rfl (Rs rfl rfl) (hle22.trans hle27) ⟨rfl, rfl⟩))))

noncomputable def f_record_text_58 (a0 : ByteArray) (a1 : Bool) : Option Bool :=
  (if (!a1) = true then (some (decide (a0 = (⟨#[]⟩ : ByteArray)))) else ((f_record_Name a0).bind fun (r22 : Bool) => (some r22)))
def f_record_text_58_post (a0 : ByteArray) (a1 : Bool) : Bool → Value → IM → HL → Prop :=
  fun (r0 : Bool) (v : Value) (M' : IM) (H' : HL) => (.bool r0) = v ∧ H' = []
theorem f_record_text_58_ok (a0 : ByteArray) (a1 : Bool) (M : IM) (res : Bool) (h : f_record_text_58 a0 a1 = some res) :
    Tri Tryz.prog 57 #[(Sv a0), (Bv a1), (.func (.func 58) #[] #[])] M [] (f_record_text_58_post a0 a1 res) := by
 unfold f_record_text_58 at h
 refine Te Tryz.func57 rfl rfl ?_
 intro F ρ hρ
 refine Sr (Pa (Bv false) rfl rfl (Nt (Cs (Sr (Pm (Bv a1) (hρ 1) rfl (Pu (Bv (!a1)) (PO.not rfl) rfl (Nt (Cd (b := !a1) rfl (fun hb21 => ?_) (fun hb21 => ?_)))))))))
 have h := ite_t hb21 h
 exact Sr (Pm (Sv a0) (hρ 0) rfl (Pu (Bv (decide (a0 = (⟨#[]⟩ : ByteArray)))) (PO.seql rfl rfl) rfl (Pa (Bv (decide (a0 = (⟨#[]⟩ : ByteArray)))) rfl rfl (Nt (Cr (Tr (Rf h [] rfl (Rs rfl rfl) lr ⟨rfl, rfl⟩)))))))
 have h := ite_f hb21 h
 refine Ck (Tc (Sr (Pm (.func (.func 58) #[] #[]) (hρ 2) rfl (Pm (Sv a0) (hρ 0) rfl ?_))))
 obtain ⟨r22, hr23, h⟩ := bnd h
 refine We (EO.callV0 (first := #[]) (cap := #[]) co58 rfl (f_record_Name_ok a0 _ r22 hr23) (argsV1 rfl rfl)) rfl ?_
 rintro _ M24 _ hle25 ⟨_, ⟨rfl, rfl⟩, rfl⟩
 exact WL.a0 (Pa (Bv r22) rfl rfl (Nt (Cr (Rf h [] rfl (Rs rfl rfl) hle25 ⟨rfl, rfl⟩))))

noncomputable def f_record_Check_2 (a0 : ByteArray) : Option Bool :=
  (some (decide ((a0.size : Int) ≤ (256 : Int))))
def f_record_Check_2_post (a0 : ByteArray) : Bool → Value → IM → HL → Prop :=
  fun (r0 : Bool) (v : Value) (M' : IM) (H' : HL) => (.bool r0) = v ∧ H' = []
theorem f_record_Check_2_ok (a0 : ByteArray) (M : IM) (res : Bool) (h : f_record_Check_2 a0 = some res) :
    Tri Tryz.prog 55 #[(Sv a0)] M [] (f_record_Check_2_post a0 res) := by
 unfold f_record_Check_2 at h
 refine Te Tryz.func55 rfl rfl ?_
 intro F ρ hρ
 exact Sr (Pa (Bv false) rfl rfl (Ns (Pm (Sv a0) (hρ 0) rfl (Pu (Iv (a0.size : Int)) (PO.lenStr Tryz.underlying9 rfl) rfl (Pu (Bv (decide ((a0.size : Int) ≤ (256 : Int)))) (PO.leq rfl rfl) rfl (Pa (Bv (decide ((a0.size : Int) ≤ (256 : Int)))) rfl rfl (Nt (Cr (Rf h [] rfl (Rs rfl rfl) lr ⟨rfl, rfl⟩)))))))))

noncomputable def f_record_text_55 (a0 : ByteArray) (a1 : Bool) : Option Bool :=
  (if (!a1) = true then (some (decide (a0 = (⟨#[]⟩ : ByteArray)))) else ((f_record_Check_2 a0).bind fun (r22 : Bool) => (some r22)))
def f_record_text_55_post (a0 : ByteArray) (a1 : Bool) : Bool → Value → IM → HL → Prop :=
  fun (r0 : Bool) (v : Value) (M' : IM) (H' : HL) => (.bool r0) = v ∧ H' = []
theorem f_record_text_55_ok (a0 : ByteArray) (a1 : Bool) (M : IM) (res : Bool) (h : f_record_text_55 a0 a1 = some res) :
    Tri Tryz.prog 57 #[(Sv a0), (Bv a1), (.func (.func 55) #[] #[])] M [] (f_record_text_55_post a0 a1 res) := by
 unfold f_record_text_55 at h
 refine Te Tryz.func57 rfl rfl ?_
 intro F ρ hρ
 refine Sr (Pa (Bv false) rfl rfl (Nt (Cs (Sr (Pm (Bv a1) (hρ 1) rfl (Pu (Bv (!a1)) (PO.not rfl) rfl (Nt (Cd (b := !a1) rfl (fun hb21 => ?_) (fun hb21 => ?_)))))))))
 have h := ite_t hb21 h
 exact Sr (Pm (Sv a0) (hρ 0) rfl (Pu (Bv (decide (a0 = (⟨#[]⟩ : ByteArray)))) (PO.seql rfl rfl) rfl (Pa (Bv (decide (a0 = (⟨#[]⟩ : ByteArray)))) rfl rfl (Nt (Cr (Tr (Rf h [] rfl (Rs rfl rfl) lr ⟨rfl, rfl⟩)))))))
 have h := ite_f hb21 h
 refine Ck (Tc (Sr (Pm (.func (.func 55) #[] #[]) (hρ 2) rfl (Pm (Sv a0) (hρ 0) rfl ?_))))
 obtain ⟨r22, hr23, h⟩ := bnd h
 refine We (EO.callV0 (first := #[]) (cap := #[]) co55 rfl (f_record_Check_2_ok a0 _ r22 hr23) (argsV1 rfl rfl)) rfl ?_
 rintro _ M24 _ hle25 ⟨_, ⟨rfl, rfl⟩, rfl⟩
 exact WL.a0 (Pa (Bv r22) rfl rfl (Nt (Cr (Rf h [] rfl (Rs rfl rfl) hle25 ⟨rfl, rfl⟩))))

noncomputable def f_slices_Index_int_int_l0 (a0 : (List Int)) (a1 : Int) (s_ : Int) : Option (Int ⊕ (Unit ⊕ Int)) :=
  match s_ with
  | x23 =>
    (if (decide (x23 < (a0.length : Int))) = true then (grd (0 ≤ x23 ∧ x23 < a0.length) (if (decide (a1 = (rd a0 x23))) = true then (some (Sum.inr (Sum.inr x23))) else (some (Sum.inl (IntKind.i64.wrap (x23 + (1 : Int))))))) else (some (Sum.inr (Sum.inl ()))))
noncomputable def f_slices_Index_int_int (a0 : (List Int)) (a1 : Int) : Option Int :=
  ((((iter (f_slices_Index_int_int_l0 a0 a1) (0 : Int)).bind (Sum.elim (fun _ => (some (Sum.inl ()))) (fun (x24 : Int) => (((some x24)).bind fun r => some (Sum.inr r))))) : Option (Unit ⊕ Int)).bind (Sum.elim (fun _ => (some (-1 : Int))) some))
def f_slices_Index_int_int_post (a0 : (List Int)) (a1 : Int) (v0 : Value) : Int → Value → IM → HL → Prop :=
  fun (r0 : Int) (v : Value) (M' : IM) (H' : HL) => (.int .i64 r0) = v ∧ H' = []
theorem f_slices_Index_int_int_ok (a0 : (List Int)) (a1 : Int) (M : IM) (v0 : Value) (h0 : RS (Kd.int .i64) M v0 a0) (res : Int) (h : f_slices_Index_int_int a0 a1 = some res) :
    Tri Tryz.prog 122 #[v0, (Iv a1)] M [] (f_slices_Index_int_int_post a0 a1 v0 res) := by
 unfold f_slices_Index_int_int at h
 refine Te Tryz.func122 rfl rfl ?_
 intro F ρ hρ
 refine Sr (Pa (Iv 0) rfl rfl (Nt ?_))
 obtain ⟨j21, hj21, h⟩ := bnd h
 refine WC.joinE (fun (_ : Unit) ρ' M' H' => M.le M' ∧ F = H') j21 ?_ ?_
 have h321 := h
 have h := hj21
 refine Sr (Pm v0 (hρ 0) rfl (Pu (Iv (a0.length : Int)) (PO.lenS Tryz.underlying65 rfl h0.len) rfl (Pm (Iv 0) rfl rfl (Nt (Bk ?_)))))
 obtain ⟨e22, he22, hK22⟩ := bnd h
 clear h
 refine WC.loop he22 (fun (x23 : Int) ρ' M' H' => M.le M' ∧ F = H' ∧ ρ' 0 = v0 ∧ ρ' 1 = (Iv a1) ∧ ρ' 7 = (Iv (a0.length : Int)) ∧ ρ' 8 = (Iv x23)) ?_ ?_
 exact ⟨lr, rfl, (hρ 0), (hρ 1), rfl, rfl⟩
 rintro x23 o22 ρ22 M22 H22 h ⟨hle22, rfl, hs22_0, hs22_1, hs22_7, hs22_8⟩
 unfold f_slices_Index_int_int_l0 at h
 refine Sr (Pu (Bv (decide (x23 < (a0.length : Int)))) (PO.lss hs22_8 hs22_7) rfl (Nt (Cs (Cd (b := decide (x23 < (a0.length : Int))) rfl (fun hb25 => ?_) (fun hb25 => ?_)))))
 have h := ite_t hb25 h
 refine Ck (Tc (Cs (Bk (Sr (Pm (Iv x23) hs22_8 rfl (Pa (Iv x23) rfl rfl (Ns (Pm (Iv a1) hs22_1 rfl (Pm v0 hs22_0 rfl (Pm (Iv x23) rfl rfl ?_))))))))))
 obtain ⟨hg26, h⟩ := grd_i h
 have h0 := h0.mono hle22
 obtain ⟨p27, cs28, hat29, hrc30, hhas31⟩ := h0.at hg26.1 hg26.2 (by decide)
 obtain rfl := hrc30
 refine Pu (.pointer (some p27)) (PO.indexAddr (n := a0.length) Tryz.underlying65 sz3 rfl rfl hg26.1 hg26.2 hat29) rfl (Pu (Iv (rd a0 x23)) (PO.loadM pl3 rfl (IM.has0 hhas31)) rfl (Pu (Bv (decide (a1 = (rd a0 x23)))) (PO.eql rfl rfl) rfl (Nt (Cd (b := decide (a1 = (rd a0 x23))) rfl (fun hb33 => ?_) (fun hb33 => ?_)))))
 have h := ite_t hb33 h
 refine Sr (Pm (Iv x23) rfl rfl (Pa (Iv x23) rfl rfl (Nt (Cr (Br (Tr (WQ.leaveR (Sum.inr x23) (oi h).symm (fun heq22 => ?_))))))))
 subst heq22
 have h := (elimR hK22)
 refine Br (Tr ?_)
 have h := KK.early h h321
 exact Rf h [] rfl (Rs rfl rfl) hle22 ⟨rfl, rfl⟩
 have h := ite_f hb33 h
 exact Ck (Bn (Tc (Cg (Pu (Iv (IntKind.i64.wrap (x23 + 1))) (PO.add hs22_8 rfl) rfl (Pm (Iv (IntKind.i64.wrap (x23 + 1))) rfl rfl (Wz (WQ.again (IntKind.i64.wrap (x23 + 1)) (oi h).symm ⟨hle22, rfl, hs22_0, hs22_1, hs22_7, rfl⟩)))))))
 have h := ite_f hb25 h
 refine WC.exit (WQ.thenE (WQ.leaveE (Sum.inl ()) (oi h).symm (fun heq22 => ?_)))
 subst heq22
 have h := elimL hK22
 exact WQ.blockH (WQ.thenFE h ⟨hle22, rfl⟩)
 rintro _ ρ21 M21 H21 rfl ⟨hle21, rfl⟩
 have h := (Sum.elim_inl _ _ _).symm.trans h
 exact Sr (Pa (Iv (-1 : Int)) rfl rfl (Nt (Cr (Rf h [] rfl (Rs rfl rfl) hle21 ⟨rfl, rfl⟩))))

noncomputable def f_slices_Contains_int_int (a0 : (List Int)) (a1 : Int) : Option Bool :=
  ((f_slices_Index_int_int a0 a1).bind fun (r21 : Int) => (some (decide ((0 : Int) ≤ r21))))
def f_slices_Contains_int_int_post (a0 : (List Int)) (a1 : Int) (v0 : Value) : Bool → Value → IM → HL → Prop :=
  fun (r0 : Bool) (v : Value) (M' : IM) (H' : HL) => (.bool r0) = v ∧ H' = []
theorem f_slices_Contains_int_int_ok (a0 : (List Int)) (a1 : Int) (M : IM) (v0 : Value) (h0 : RS (Kd.int .i64) M v0 a0) (res : Bool) (h : f_slices_Contains_int_int a0 a1 = some res) :
    Tri Tryz.prog 118 #[v0, (Iv a1)] M [] (f_slices_Contains_int_int_post a0 a1 v0 res) := by
 unfold f_slices_Contains_int_int at h
 refine Te Tryz.func118 rfl rfl ?_
 intro F ρ hρ
 refine Sr (Pa (Bv false) rfl rfl (Ns (Pm v0 (hρ 0) rfl (Pm (Iv a1) (hρ 1) rfl ?_))))
 obtain ⟨r21, hr22, h⟩ := bnd h
 refine We (Ca co122 (f_slices_Index_int_int_ok a0 a1 _ _ h0 r21 hr22) (args2 rfl rfl)) rfl ?_
 rintro _ M23 _ hle24 ⟨_, ⟨rfl, rfl⟩, rfl⟩
 exact WL.a0 (Pu (Bv (decide ((0 : Int) ≤ r21))) (PO.geq rfl rfl) rfl (Pa (Bv (decide ((0 : Int) ≤ r21))) rfl rfl (Nt (Cr (Rf h [] rfl (Rs rfl rfl) hle24 ⟨rfl, rfl⟩)))))

noncomputable def f_record_Brokers_l0 (a0 : (List Int)) (s_ : Int) : Option (Int ⊕ (Unit ⊕ Unit)) :=
  match s_ with
  | x24 =>
    (if (decide (x24 < (a0.length : Int))) = true then (grd (0 ≤ x24 ∧ x24 < a0.length) (((if (decide ((rd a0 x24) < (1 : Int))) = true then (some true) else (if (decide ((64 : Int) < (rd a0 x24))) = true then (some true) else (grd (0 ≤ (0 : Int) ∧ (0 : Int) ≤ x24 ∧ x24 ≤ (a0.length : Int)) ((f_slices_Contains_int_int (sub a0 (0 : Int) x24) (rd a0 x24)).bind fun (r39 : Bool) => (some r39))))) : Option Bool).bind fun (x33 : Bool) => (if x33 = true then (some (Sum.inr (Sum.inr ()))) else (some (Sum.inl (IntKind.i64.wrap (x24 + (1 : Int)))))))) else (some (Sum.inr (Sum.inl ()))))
noncomputable def f_record_Brokers (a0 : (List Int)) : Option Bool :=
  (if (decide ((7 : Int) < (a0.length : Int))) = true then (some false) else ((((iter (f_record_Brokers_l0 a0) (0 : Int)).bind (Sum.elim (fun _ => (some (Sum.inl ()))) (fun _ => (((some false)).bind fun r => some (Sum.inr r))))) : Option (Unit ⊕ Bool)).bind (Sum.elim (fun _ => (some true)) some)))
def f_record_Brokers_post (a0 : (List Int)) (v0 : Value) : Bool → Value → IM → HL → Prop :=
  fun (r0 : Bool) (v : Value) (M' : IM) (H' : HL) => (.bool r0) = v ∧ H' = []
theorem f_record_Brokers_ok (a0 : (List Int)) (M : IM) (v0 : Value) (h0 : RS (Kd.int .i64) M v0 a0) (res : Bool) (h : f_record_Brokers a0 = some res) :
    Tri Tryz.prog 98 #[v0] M [] (f_record_Brokers_post a0 v0 res) := by
 unfold f_record_Brokers at h
 refine Te Tryz.func98 rfl rfl ?_
 intro F ρ hρ
 refine Sr (Pa (Bv false) rfl rfl (Nt (Cs (Sr (Pm v0 (hρ 0) rfl (Pu (Iv (a0.length : Int)) (PO.lenS Tryz.underlying65 rfl h0.len) rfl (Pu (Bv (decide ((7 : Int) < (a0.length : Int)))) (PO.gtr rfl rfl) rfl (Nt (Cd (b := decide ((7 : Int) < (a0.length : Int))) rfl (fun hb21 => ?_) (fun hb21 => ?_))))))))))
 have h := ite_t hb21 h
 exact Sr (Pa (Bv false) rfl rfl (Nt (Cr (Tr (Rf h [] rfl (Rs rfl rfl) lr ⟨rfl, rfl⟩)))))
 have h := ite_f hb21 h
 refine Ck (Tc ?_)
 obtain ⟨j22, hj22, h⟩ := bnd h
 refine WC.joinE (fun (_ : Unit) ρ' M' H' => M.le M' ∧ F = H') j22 ?_ ?_
 have h322 := h
 have h := hj22
 refine Sr (Pm v0 (hρ 0) rfl (Pu (Iv (a0.length : Int)) (PO.lenS Tryz.underlying65 rfl h0.len) rfl (Pm (Iv 0) rfl rfl (Nt (Bk ?_)))))
 obtain ⟨e23, he23, hK23⟩ := bnd h
 clear h
 refine WC.loop he23 (fun (x24 : Int) ρ' M' H' => M.le M' ∧ F = H' ∧ ρ' 0 = v0 ∧ ρ' 8 = v0 ∧ ρ' 9 = (Iv (a0.length : Int)) ∧ ρ' 10 = (Iv x24)) ?_ ?_
 exact ⟨lr, rfl, (hρ 0), rfl, rfl, rfl⟩
 rintro x24 o23 ρ23 M23 H23 h ⟨hle23, rfl, hs23_0, hs23_8, hs23_9, hs23_10⟩
 unfold f_record_Brokers_l0 at h
 refine Sr (Pu (Bv (decide (x24 < (a0.length : Int)))) (PO.lss hs23_10 hs23_9) rfl (Nt (Cs (Cd (b := decide (x24 < (a0.length : Int))) rfl (fun hb25 => ?_) (fun hb25 => ?_)))))
 have h := ite_t hb25 h
 refine Ck (Tc (Cs (Bk (Sr (Pm (Iv x24) hs23_10 rfl ?_)))))
 obtain ⟨hg26, h⟩ := grd_i h
 have h0 := h0.mono hle23
 obtain ⟨p27, cs28, hat29, hrc30, hhas31⟩ := h0.at hg26.1 hg26.2 (by decide)
 obtain rfl := hrc30
 refine Pu (.pointer (some p27)) (PO.indexAddr (n := a0.length) Tryz.underlying65 sz3 hs23_8 hs23_10 hg26.1 hg26.2 hat29) rfl (Pu (Iv (rd a0 x24)) (PO.loadM pl3 rfl (IM.has0 hhas31)) rfl (Pa (Iv x24) rfl rfl (Pa (Iv (rd a0 x24)) rfl rfl (Nt ?_))))
 obtain ⟨x33, hj34, h⟩ := bnd h
 refine Jf (fun (x33 : Bool) ρ' M' H' => M23.le M' ∧ F = H' ∧ ρ' 0 = v0 ∧ ρ' 8 = v0 ∧ ρ' 9 = (Iv (a0.length : Int)) ∧ ρ' 10 = (Iv x24) ∧ ρ' 27 = (Bv x33)) x33 ?_ ?_
 have h334 := h
 have h := hj34
 refine Cg (Pm (Iv (rd a0 x24)) rfl rfl (Pu (Bv (decide ((rd a0 x24) < 1))) (PO.lss rfl rfl) rfl (Pm (Bv (decide ((rd a0 x24) < 1))) rfl rfl ?_)))
 rcases Bt (decide ((rd a0 x24) < 1)) with hb35 | hb35
 have h := ite_t hb35 h
 iterate 2 refine Of 17 rfl rfl hb35 rfl ?_
 refine Pu (Bv true) (Pt rfl hb35 rfl) rfl (Pm (Bv true) rfl rfl ?_)
 iterate 5 refine Of 21 rfl rfl rfl rfl ?_
 refine Pu (Bv true) (Pt rfl rfl rfl) rfl (Wz ?_)
 obtain rfl := oi h
 exact Tj ⟨lr, rfl, hs23_0, hs23_8, hs23_9, hs23_10, rfl⟩
 have h := ite_f hb35 h
 refine On 17 rfl rfl hb35 (Pm (Iv (rd a0 x24)) rfl rfl (On 17 rfl rfl hb35 (Pu (Bv (decide ((64 : Int) < (rd a0 x24)))) (PO.gtr rfl rfl) rfl (Pu (Bv (decide ((64 : Int) < (rd a0 x24)))) (Pf rfl hb35 rfl) rfl (Pm (Bv (decide ((64 : Int) < (rd a0 x24)))) rfl rfl ?_)))))
 rcases Bt (decide ((64 : Int) < (rd a0 x24))) with hb36 | hb36
 have h := ite_t hb36 h
 iterate 5 refine Of 21 rfl rfl hb36 rfl ?_
 refine Pu (Bv true) (Pt rfl hb36 rfl) rfl (Wz ?_)
 obtain rfl := oi h
 exact Tj ⟨lr, rfl, hs23_0, hs23_8, hs23_9, hs23_10, rfl⟩
 have h := ite_f hb36 h
 refine On 21 rfl rfl hb36 (Pm v0 hs23_0 rfl (On 21 rfl rfl hb36 (Pm (Iv x24) rfl rfl (On 21 rfl rfl hb36 ?_))))
 obtain ⟨hg37, h⟩ := grd_i h
 have h38 := h0.sub hg37.1 hg37.2.1 hg37.2.2
 refine Pu (slV v0 1 ((0 : Int)).toNat (x24).toNat) (PO.slice (n := a0.length) (l := ((0 : Int)).toNat) (h := (x24).toNat) Tryz.underlying65 sz3 rfl h0.len h0.cap (bound0 rfl) ⟨_, _, rfl, (Int.le_trans hg37.1 hg37.2.1), rfl⟩ (Int.toNat_le_toNat hg37.2.1) (toNat_le_len hg37.2.2)) rfl (On 21 rfl rfl hb36 (Pm (Iv (rd a0 x24)) rfl rfl (On 21 rfl rfl hb36 ?_)))
 obtain ⟨r39, hr40, h⟩ := bnd h
 refine We (Ca co118 (f_slices_Contains_int_int_ok (sub a0 (0 : Int) x24) (rd a0 x24) _ _ h38 r39 hr40) (args2 rfl rfl)) rfl ?_
 rintro _ M41 _ hle42 ⟨_, ⟨rfl, rfl⟩, rfl⟩
 refine WL.a0 (Pu (Bv r39) (Pf rfl hb36 rfl) rfl (Wz ?_))
 obtain rfl := oi h
 exact Tj ⟨hle42, rfl, hs23_0, hs23_8, hs23_9, hs23_10, rfl⟩
 rintro ρ34 M34 H34 ⟨hle34, rfl, hs34_0, hs34_8, hs34_9, hs34_10, hs34_27⟩
 refine Cd (b := x33) hs34_27 (fun hb44 => ?_) (fun hb44 => ?_)
 have h := ite_t hb44 h
 refine Sr (Pa (Bv false) rfl rfl (Nt (Cr (Br (Tr (WQ.leaveR (Sum.inr ()) (oi h).symm (fun heq23 => ?_)))))))
 subst heq23
 have h := (elimR hK23)
 refine Br (Tr ?_)
 have h := KK.early h h322
 exact Rf h [] rfl (Rs rfl rfl) (hle23.trans hle34) ⟨rfl, rfl⟩
 have h := ite_f hb44 h
 exact Ck (Bn (Tc (Cg (Pu (Iv (IntKind.i64.wrap (x24 + 1))) (PO.add hs34_10 rfl) rfl (Pm (Iv (IntKind.i64.wrap (x24 + 1))) rfl rfl (Wz (WQ.again (IntKind.i64.wrap (x24 + 1)) (oi h).symm ⟨(hle23.trans hle34), rfl, hs34_0, hs34_8, hs34_9, rfl⟩)))))))
 have h := ite_f hb25 h
 refine WC.exit (WQ.thenE (WQ.leaveE (Sum.inl ()) (oi h).symm (fun heq23 => ?_)))
 subst heq23
 have h := elimL hK23
 exact WQ.blockH (WQ.thenFE h ⟨hle23, rfl⟩)
 rintro _ ρ22 M22 H22 rfl ⟨hle22, rfl⟩
 have h := (Sum.elim_inl _ _ _).symm.trans h
 exact Sr (Pa (Bv true) rfl rfl (Nt (Cr (Rf h [] rfl (Rs rfl rfl) hle22 ⟨rfl, rfl⟩))))

noncomputable def f_record_row (a0 : (List Int)) (a1 : Bool) : Option Bool :=
  (if (!a1) = true then (some (decide ((a0.length : Int) = (0 : Int)))) else ((f_record_Brokers a0).bind fun (r22 : Bool) => (some r22)))
def f_record_row_post (a0 : (List Int)) (a1 : Bool) (v0 : Value) : Bool → Value → IM → HL → Prop :=
  fun (r0 : Bool) (v : Value) (M' : IM) (H' : HL) => (.bool r0) = v ∧ H' = []
theorem f_record_row_ok (a0 : (List Int)) (a1 : Bool) (M : IM) (v0 : Value) (h0 : RS (Kd.int .i64) M v0 a0) (res : Bool) (h : f_record_row a0 a1 = some res) :
    Tri Tryz.prog 59 #[v0, (Bv a1)] M [] (f_record_row_post a0 a1 v0 res) := by
 unfold f_record_row at h
 refine Te Tryz.func59 rfl rfl ?_
 intro F ρ hρ
 refine Sr (Pa (Bv false) rfl rfl (Nt (Cs (Sr (Pm (Bv a1) (hρ 1) rfl (Pu (Bv (!a1)) (PO.not rfl) rfl (Nt (Cd (b := !a1) rfl (fun hb21 => ?_) (fun hb21 => ?_)))))))))
 have h := ite_t hb21 h
 exact Sr (Pm v0 (hρ 0) rfl (Pu (Iv (a0.length : Int)) (PO.lenS Tryz.underlying65 rfl h0.len) rfl (Pu (Bv (decide ((a0.length : Int) = (0 : Int)))) (PO.eql rfl rfl) rfl (Pa (Bv (decide ((a0.length : Int) = (0 : Int)))) rfl rfl (Nt (Cr (Tr (Rf h [] rfl (Rs rfl rfl) lr ⟨rfl, rfl⟩))))))))
 have h := ite_f hb21 h
 refine Ck (Tc (Sr (Pm v0 (hρ 0) rfl ?_)))
 obtain ⟨r22, hr23, h⟩ := bnd h
 refine We (Ca co98 (f_record_Brokers_ok a0 _ _ h0 r22 hr23) (args1 rfl)) rfl ?_
 rintro _ M24 _ hle25 ⟨_, ⟨rfl, rfl⟩, rfl⟩
 exact WL.a0 (Pa (Bv r22) rfl rfl (Nt (Cr (Rf h [] rfl (Rs rfl rfl) hle25 ⟨rfl, rfl⟩))))


end Go.Proofs.YtjiffdgidodebaaGreatDoor.G
