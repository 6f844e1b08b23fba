/- Go functions: what they come to, and that they do. Printed by a program of the session (gen). -/
import Derived.Test.YtkflneabcannnaaGreatDoorCF
import Derived.Test.YtkflneabcannnaaGreatDoorC0
import Derived.Test.YtkflneabcannnaaGreatDoorC1
import Derived.Test.YtkflneabcannnaaGreatDoorC2
import Derived.Test.YtkflneabcannnaaGreatDoorC3
import Derived.Test.YtkflneabcannnaaGreatDoorKConv
import Derived.Test.YtkflneabcannnaaGreatDoorKShar2
import Derived.Test.YtkflneabcannnaaGreatDoorKTight2
set_option linter.unusedVariables false
set_option linter.unusedSimpArgs false
set_option maxHeartbeats 8000000
set_option maxRecDepth 100000
namespace Go.Proofs.YtkflneabcannnaaGreatDoor.G
open Go Go.KK

noncomputable def f_batch_Put_l0 (a0 : T_api_Batch) (s_ : ((List Int) × Int)) : Option (((List Int) × Int) ⊕ ((List Int) ⊕ ((List Int) × GErr))) :=
  match s_ with
  | (x48, x49) =>
    (if (decide (x49 < (a0.Records.length : Int))) = true then (grd (0 ≤ x49 ∧ x49 < a0.Records.length) ((f_record_Put x48 (rd a0.Records x49)).bind fun (r62, r63) => (if (!r63.isNil) = true then ((f_fault_Wrap (⟨#[114, 101, 99, 111, 114, 100]⟩ : ByteArray) x49 r63).bind fun r70 => (some (Sum.inr (Sum.inr ([], r70))))) else (some (Sum.inl (r62, IntKind.i64.wrap (x49 + (1 : Int)))))))) else (some (Sum.inr (Sum.inl x48))))
noncomputable def f_batch_Put (a0 : T_api_Batch) : Option ((List Int) × GErr) :=
  ((f_batch_Check a0).bind fun r22 => (if (!r22.isNil) = true then (some ([], r22)) else ((f_wire_Int [] a0.Term).bind fun r30 => ((f_wire_Int r30 a0.Base).bind fun r35 => ((f_wire_Int r35 (a0.Records.length : Int)).bind fun r40 => ((((iter (f_batch_Put_l0 a0) (r40, (0 : Int))).bind (Sum.elim (fun (x50 : (List Int)) => (some (Sum.inl x50))) (fun (x51, x52) => (((some (x51, x52))).bind fun r => some (Sum.inr r))))) : Option ((List Int) ⊕ ((List Int) × GErr))).bind (Sum.elim (fun (x45 : (List Int)) => (if (decide ((16384 : Int) < (x45.length : Int))) = true then ((f_fault_New (⟨#[98, 97, 116, 99, 104]⟩ : ByteArray) (x45.length : Int) (6 : Int)).bind fun r77 => (some ([], r77))) else (some (x45, GErr.nil)))) some)))))))
def f_batch_Put_post (a0 : T_api_Batch) (v0_2 : Value) : ((List Int) × GErr) → Value → IM → HL → Prop :=
  fun (p_ : ((List Int) × GErr)) (v : Value) (M' : IM) (H' : HL) => match p_ with | (r0, r1) => ∃ vz0 cz0, (.tuple #[vz0, (GV r1)]) = v ∧ H' = [cz0] ∧ OwnS (Kd.int .u8) M' vz0 r0 cz0
theorem f_batch_Put_ok (a0 : T_api_Batch) (M : IM) (v0_2 : Value) (h0_2 : RS kd_api_Record M v0_2 a0.Records) (res : ((List Int) × GErr)) (h : f_batch_Put a0 = some res) :
    Tri Tryz.prog 28 #[(a55_ a0 v0_2)] M [] (f_batch_Put_post a0 v0_2 res) := by
 unfold f_batch_Put at h
 refine Te Tryz.func28 rfl rfl ?_
 intro F ρ hρ
 refine Sr (We (EO.box (cs := (l55 a0 v0_2).toArray) (congrArg Value.cells (asE (a55_ a0 v0_2) (hρ 0)))) rfl ?_)
 rintro _ _ _ - ⟨rfl, g21, rfl, rfl⟩
 refine qa Zs (qa (GV GErr.nil) (Nt (Cs (Sr (qu (a55_ a0 v0_2) (La (cs := (l55 a0 v0_2)) 0 ag55 sz55 rfl rfl rfl) ?_)))))
 obtain ⟨r22, hr23, h⟩ := bnd h
 refine We (Ca co49 (f_batch_Check_ok a0 _ _ h0_2 r22 hr23) (args1 rfl)) rfl ?_
 rintro _ M24 _ hle25 ⟨_, ⟨rfl, rfl⟩, rfl⟩
 refine WL.a0 (qa (GV r22) (Ns (qm (GV r22) (qu (Bv (!r22.isNil)) (PO.errNotNil Tryz.underlying31 rfl) (Nt (Cd (b := !r22.isNil) rfl (fun hb27 => ?_) (fun hb27 => ?_)))))))
 have h := ite_t hb27 h
 exact Sr (qm (GV r22) (qa Zs (qa (GV r22) (Nt (Cr (Tr (WQ.e0 (Qa (Dr (Rf h [[]] rfl (results2 rfl rfl rfl) hle25 ⟨Zs, [], rfl, rfl, (OwnS.nil _ _)⟩))))))))))
 have h := ite_f hb27 h
 refine Ck (Tc (Cs (WC.draw [0, 1, 3, 0, 8, 31, 0, 64, 192, 511, 1023] (.pure 0 (.pure 1 (.pure 3 (.pure 4 (.pure 6 (.pure 7 (.pure 8 (.alt 2 (.alt 5 (.alt 9 (.pure 10 .done) .none) .none) .none)))))))) mixed (by kernel_rfl) (qt (pt g21 0) rfl (Fa fo55_0 rfl rfl) (qt (Iv a0.Term) rfl (Lb 0 pl3 rfl rfl rfl) (qt (pt g21 1) rfl (Fa fo55_1 rfl rfl) (qt (Iv a0.Base) rfl (Lb 0 pl3 rfl rfl rfl) (qt (pt g21 2) rfl (Fa fo55_2 rfl rfl) (qt v0_2 rfl (Lb 0 pl53 rfl rfl rfl) ?_)))))))))
 have h0_2 := h0_2.mono hle25
 refine qt (Iv (a0.Records.length : Int)) rfl (PO.lenS Tryz.underlying53 rfl h0_2.len) ?_
 obtain ⟨r30, hr31, h⟩ := bnd h
 refine WT.e0 (Ta rfl (Cb co24 (f_wire_Int_ok [] a0.Term _ _ _ (OwnS.nil _ _) r30 hr31) (args2 rfl rfl)) rfl ?_ ?_)
 rintro _ M32 _ hle33 ⟨_, ⟨vq34, cq34, rfl, rfl, hq34⟩, rfl⟩
 have h0_2 := h0_2.mono hle33
 refine ⟨(Ss rfl (PO.lenS Tryz.underlying53 rfl h0_2.len) rfl (Ss rfl (Lb 1 pl53 rfl rfl rfl) rfl (Ss rfl (Fa fo55_2 rfl rfl) rfl (Ss rfl (Lb 1 pl3 rfl rfl rfl) rfl (Ss rfl (Fa fo55_1 rfl rfl) rfl (Sl rfl)))))), ?_⟩
 refine WT.a1 ?_
 obtain ⟨r35, hr36, h⟩ := bnd h
 refine Ta rfl (Cb co24 (f_wire_Int_ok r30 a0.Base _ _ _ hq34 r35 hr36) (args2 rfl rfl)) rfl ?_ ?_
 rintro _ M37 _ hle38 ⟨_, ⟨vq39, cq39, rfl, rfl, hq39⟩, rfl⟩
 have h0_2 := h0_2.mono hle38
 refine ⟨(Ss rfl (PO.lenS Tryz.underlying53 rfl h0_2.len) rfl (Ss rfl (Lb 1 pl53 rfl rfl rfl) rfl (Ss rfl (Fa fo55_2 rfl rfl) rfl (Sl rfl)))), ?_⟩
 refine WT.a1 ?_
 obtain ⟨r40, hr41, h⟩ := bnd h
 refine Ta rfl (Cb co24 (f_wire_Int_ok r35 (a0.Records.length : Int) _ _ _ hq39 r40 hr41) (args2 rfl rfl)) rfl ?_ ?_
 rintro _ M42 _ hle43 ⟨_, ⟨vq44, cq44, rfl, rfl, hq44⟩, rfl⟩
 have L43 := ((hle25.trans hle33).trans hle38).trans hle43
 refine ⟨(Sl rfl), ?_⟩
 refine WT.a1 (qt vq44 rfl (Ag rfl) (Ti (Tc ?_)))
 obtain ⟨j46, hj46, h⟩ := bnd h
 refine WC.joinE (fun (x45 : (List Int)) ρ' M' H' => ∃ vx45 cx45, M42.le M' ∧ [(g21, .cells (l55 a0 v0_2).toArray 55 (0, 0))] :: cx45 :: F = H' ∧ ρ' 5 = vx45 ∧ OwnS (Kd.int .u8) M' vx45 x45 cx45) j46 ?_ ?_
 have h346 := h
 have h := hj46
 refine Sr (qu (pt g21 2) (Fa fo55_2 rfl rfl) (qu v0_2 (Lb 1 pl53 rfl rfl rfl) ?_))
 have h0_2 := h0_2.mono hle43
 refine qu (Iv (a0.Records.length : Int)) (PO.lenS Tryz.underlying53 rfl h0_2.len) (qm (Iv 0) (Nt (Bk (WC.f1 ?_))))
 obtain ⟨e47, he47, hK47⟩ := bnd h
 clear h
 refine WC.loop he47 (fun (p_ : ((List Int) × Int)) ρ' M' H' => match p_ with | (x48, x49) => ∃ vx48 cx48, M42.le M' ∧ [(g21, .cells (l55 a0 v0_2).toArray 55 (0, 0))] :: cx48 :: F = H' ∧ ρ' 5 = vx48 ∧ ρ' 26 = v0_2 ∧ ρ' 27 = (Iv (a0.Records.length : Int)) ∧ ρ' 28 = (Iv x49) ∧ OwnS (Kd.int .u8) M' vx48 x48 cx48) ?_ ?_
 exact ⟨vq44, cq44, lr, rfl, rfl, rfl, rfl, rfl, hq44⟩
 rintro ⟨x48, x49⟩ o47 ρ47 M47 H47 h ⟨vx48, cx48, hle47, rfl, hs47_5, hs47_26, hs47_27, hs47_28, hx48⟩
 unfold f_batch_Put_l0 at h
 refine Sr (qu (Bv (decide (x49 < (a0.Records.length : Int)))) (PO.lss hs47_28 hs47_27) (Nt (Cs (Cd (b := decide (x49 < (a0.Records.length : Int))) rfl (fun hb53 => ?_) (fun hb53 => ?_)))))
 have h := ite_t hb53 h
 refine Ck (Tc (Cs (Bk (Sr (qM (Iv x49) hs47_28 ?_)))))
 obtain ⟨hg54, h⟩ := grd_i h
 have h0_2 := h0_2.mono hle47
 obtain ⟨p55, cs56, hat57, hrc58, hhas59⟩ := h0_2.at hg54.1 hg54.2 (by decide)
 obtain ⟨vw60_14, vw60_15, vw60_16, vw60_17, rfl, hw60_14, hw60_15, hw60_16, hw60_17⟩ := kd_api_Record_open hrc58
 refine qu (.pointer (some p55)) (PO.indexAddr (n := a0.Records.length) Tryz.underlying53 sz58 hs47_26 hs47_28 hg54.1 hg54.2 hat57) (qu (a58_ (rd a0.Records x49) vw60_14 vw60_15 vw60_16 vw60_17) (PO.loadMA (cs := (l58 (rd a0.Records x49) vw60_14 vw60_15 vw60_16 vw60_17)) ag58 sz58 rfl hhas59) (We (Al ze58 rfl) rfl ?_))
 rintro _ _ _ - ⟨rfl, g61, rfl, rfl⟩
 refine qa (Iv x49) (We (Sg (v := (a58_ (rd a0.Records x49) vw60_14 vw60_15 vw60_16 vw60_17)) (vl := (l58 (rd a0.Records x49) vw60_14 vw60_15 vw60_16 vw60_17)) (arr' := (l58 (rd a0.Records x49) vw60_14 vw60_15 vw60_16 vw60_17)) rfl sz58 rfl rfl (onesOf (Oc rfl (Oc rfl (Oc rfl (Oc rfl (Oc rfl (Oc rfl (Oc rfl (Oc rfl (Oc rfl (Oc rfl (Oc rfl (Oc rfl (Oc rfl (Oc rfl (Oc (RS.one hw60_14) (Oc (RS.one hw60_15) (Oc (RS.one hw60_16) (Oc (RS.one hw60_17) Oz))))))))))))))))))) rfl rfl (by kernel_rfl)) rfl ?_)
 rintro _ _ _ - ⟨rfl, rfl⟩
 refine Ns (qM vx48 hs47_5 (qu (a58_ (rd a0.Records x49) vw60_14 vw60_15 vw60_16 vw60_17) (La (cs := (l58 (rd a0.Records x49) vw60_14 vw60_15 vw60_16 vw60_17)) 0 ag58 sz58 rfl rfl rfl) ?_))
 obtain ⟨⟨r62, r63⟩, hr64, h⟩ := bnd h
 refine Wb (We (Cb co67 (f_record_Put_ok x48 (rd a0.Records x49) _ _ _ _ _ _ _ hx48 hw60_14 hw60_15 hw60_16 hw60_17 (r62, r63) hr64) (args2 rfl rfl)) rfl ?_)
 rintro _ M65 _ hle66 ⟨_, ⟨vq67, cq67, rfl, rfl, hq67⟩, rfl⟩
 refine WL.a1 (qm (.tuple #[vq67, (GV r63)]) (qu vq67 (Xt rfl rfl) (qu (GV r63) (Xt rfl rfl) (qa vq67 (qa (GV r63) (Nt (Cs (Sr (qm (GV r63) (qu (Bv (!r63.isNil)) (PO.errNotNil Tryz.underlying31 rfl) (Nt ?_)))))))))))
 refine Cd (b := !r63.isNil) rfl (fun hb69 => ?_) (fun hb69 => ?_)
 have h := ite_t hb69 h
 refine Sr (qm (Iv x49) (qm (GV r63) ?_))
 obtain ⟨r70, hr71, h⟩ := bnd h
 refine We (Ca co29 (f_fault_Wrap_ok ⟨#[114, 101, 99, 111, 114, 100]⟩ x49 r63 _ r70 hr71) (args3 rfl rfl rfl)) rfl ?_
 rintro _ M72 _ hle73 ⟨_, ⟨rfl, rfl⟩, rfl⟩
 refine WL.a0 (qa Zs (qa (GV r70) (Nt (Cr (Tr (Br (Tr (WQ.leaveR (Sum.inr ([], r70)) (oi h).symm (fun heq47 => ?_)))))))))
 subst heq47
 have h := (elimR hK47)
 refine Br (Tr ?_)
 have h := KK.early h h346
 exact WQ.e0 (Qa (Dr (Qa (Dr (Qa (Dr (Rf h [[]] rfl (results2 rfl rfl rfl) (((L43.trans hle47).trans hle66).trans hle73) ⟨Zs, [], rfl, rfl, (OwnS.nil _ _)⟩)))))))
 have h := ite_f hb69 h
 refine Ck (Tc (Cg (qm vq67 (qa vq67 (Wz (Bn (Tc (Cg (qu (Iv (IntKind.i64.wrap (x49 + 1))) (PO.add hs47_28 rfl) (qm (Iv (IntKind.i64.wrap (x49 + 1))) (Wz ?_)))))))))))
 exact Qa (Dr (Qa (WQ.again (r62, IntKind.i64.wrap (x49 + 1)) (oi h).symm ⟨vq67, cq67, (hle47.trans hle66), rfl, rfl, hs47_26, hs47_27, rfl, hq67⟩)))
 have h := ite_f hb53 h
 refine WC.exit (WQ.thenE (WQ.leaveE (Sum.inl x48) (oi h).symm (fun heq47 => ?_)))
 subst heq47
 have h := elimL hK47
 exact WQ.blockH (WQ.thenFE h ⟨vx48, cx48, hle47, rfl, hs47_5, hx48⟩)
 rintro x45 ρ46 M46 H46 rfl ⟨vx45, cx45, hle46, rfl, hs46_5, hx45⟩
 have h := (Sum.elim_inl _ _ _).symm.trans h
 refine Cs (Sr (qM vx45 hs46_5 (qu (Iv (x45.length : Int)) (PO.lenS Tryz.underlying23 rfl hx45.len) (qu (Bv (decide ((16384 : Int) < (x45.length : Int)))) (PO.gtr rfl rfl) (Nt (Cd (b := decide ((16384 : Int) < (x45.length : Int))) rfl (fun hb76 => ?_) (fun hb76 => ?_)))))))
 have h := ite_t hb76 h
 refine Sr (qM vx45 hs46_5 (qu (Iv (x45.length : Int)) (PO.lenS Tryz.underlying23 rfl hx45.len) ?_))
 obtain ⟨r77, hr78, h⟩ := bnd h
 refine We (Ca co30 (f_fault_New_ok ⟨#[98, 97, 116, 99, 104]⟩ (x45.length : Int) (6 : Int) _ r77 hr78) (args3 rfl rfl rfl)) rfl ?_
 rintro _ M79 _ hle80 ⟨_, ⟨rfl, rfl⟩, rfl⟩
 exact WL.a0 (qa Zs (qa (GV r77) (Nt (Cr (Tr (WQ.e0 (Qa (Dr (Qa (Dr (Rf h [[]] rfl (results2 rfl rfl rfl) ((L43.trans hle46).trans hle80) ⟨Zs, [], rfl, rfl, (OwnS.nil _ _)⟩)))))))))))
 have h := ite_f hb76 h
 exact Ck (Tc (Sr (qM vx45 hs46_5 (qa vx45 (qa (GV GErr.nil) (Nt (Cr (Dr (Rf h [cx45] rfl (results2 rfl rfl rfl) (L43.trans hle46) ⟨vx45, cx45, rfl, rfl, hx45⟩)))))))))
 exact Tz
 exact Tz
 exact Tz

noncomputable def f_rpc_Put_l0 (a0 : T_api_Rpc) (s_ : (Int × (List Int))) : Option ((Int × (List Int)) ⊕ ((List Int) ⊕ (GErr × (List Int)))) :=
  match s_ with
  | (x176, x177) =>
    (if (decide (x176 < (a0.Batches.length : Int))) = true then (grd (0 ≤ x176 ∧ x176 < a0.Batches.length) ((f_batch_Put (rd a0.Batches x176)).bind fun (r190, r191) => (if (!r191.isNil) = true then ((f_fault_Wrap (⟨#[98, 97, 116, 99, 104]⟩ : ByteArray) x176 r191).bind fun r198 => (some (Sum.inr (Sum.inr (r198, x177))))) else (grd (x177.length + r190.length ≤ 274877906944) (some (Sum.inl (IntKind.i64.wrap (x176 + (1 : Int)), x177 ++ r190))))))) else (some (Sum.inr (Sum.inl x177))))
noncomputable def f_rpc_Put (a0 : T_api_Rpc) : Option (T_api_Frame × GErr) :=
  ((f_rpc_Check a0).bind fun r23 => (if (!r23.isNil) = true then (some ((⟨(0 : Int), []⟩ : T_api_Frame), r23)) else ((f_rpc_about a0.Kind).bind fun r30 => ((((f_wire_Int [] a0.From).bind fun r41 => ((f_wire_Int r41 a0.To).bind fun r47 => ((f_wire_Int r47 a0.Term).bind fun r53 => (some r53)))) : Option (List Int)).bind fun x37 => (((if (decide ((andI .i64 r30 (1 : Int)) ≠ (0 : Int))) = true then ((f_wire_Flag x37 a0.Pre).bind fun r96 => (some r96)) else (some x37)) : Option (List Int)).bind fun x93 => (((if (decide ((andI .i64 r30 (2 : Int)) ≠ (0 : Int))) = true then ((f_wire_Flag x93 a0.Ok).bind fun r104 => (some r104)) else (some x93)) : Option (List Int)).bind fun x101 => ((f_rpc_Put_1 (4 : Int) a0.Leader r30 x101).bind fun r109 => ((f_rpc_Put_1 (8 : Int) a0.At r30 r109).bind fun r116 => ((f_rpc_Put_1 (8 : Int) a0.AtTerm r30 r116).bind fun r123 => ((f_rpc_Put_1 (16 : Int) a0.High r30 r123).bind fun r130 => ((f_rpc_Put_1 (32 : Int) a0.Code r30 r130).bind fun r137 => ((f_rpc_Put_1 (128 : Int) a0.Size r30 r137).bind fun r144 => ((f_rpc_Put_1 (256 : Int) a0.Pos r30 r144).bind fun r151 => (((if (decide (a0.Kind = (8 : Int))) = true then ((f_wire_Text r151 a0.Data).bind fun r161 => (some r161)) else (some r151)) : Option (List Int)).bind fun x158 => ((f_rpc_Put_1 (64 : Int) (a0.Batches.length : Int) r30 x158).bind fun r166 => ((((iter (f_rpc_Put_l0 a0) ((0 : Int), r166)).bind (Sum.elim (fun (x178 : (List Int)) => (some (Sum.inl x178))) (fun (x179, x180) => (((some ((⟨(0 : Int), []⟩ : T_api_Frame), x179))).bind fun r => some (Sum.inr r))))) : Option ((List Int) ⊕ (T_api_Frame × GErr))).bind (Sum.elim (fun (x173 : (List Int)) => (if (decide ((16384 : Int) < (x173.length : Int))) = true then ((f_fault_New (⟨#[109, 101, 115, 115, 97, 103, 101]⟩ : ByteArray) (x173.length : Int) (6 : Int)).bind fun r210 => (some ((⟨(0 : Int), []⟩ : T_api_Frame), r210))) else (some ((⟨a0.Kind, x173⟩ : T_api_Frame), GErr.nil)))) some)))))))))))))))))
def f_rpc_Put_post (a0 : T_api_Rpc) (v0_11 v0_14 : Value) : (T_api_Frame × GErr) → Value → IM → HL → Prop :=
  fun (p_ : (T_api_Frame × GErr)) (v : Value) (M' : IM) (H' : HL) => match p_ with | (r0, r1) => ∃ vz0_1 cz0_1, (.tuple #[(.agg #[(.int .i64 r0.Kind), vz0_1]), (GV r1)]) = v ∧ H' = [cz0_1] ∧ OwnS (Kd.int .u8) M' vz0_1 r0.Body cz0_1
theorem f_rpc_Put_ok (a0 : T_api_Rpc) (M : IM) (v0_11 v0_14 : Value) (h0_11 : RS kd_api_Batch M v0_11 a0.Batches) (h0_14 : RS (Kd.int .u8) M v0_14 a0.Data) (res : (T_api_Frame × GErr)) (h : f_rpc_Put a0 = some res) :
    Tri Tryz.prog 10 #[(a25_ a0 v0_11 v0_14)] M [] (f_rpc_Put_post a0 v0_11 v0_14 res) := by
 unfold f_rpc_Put at h
 refine Te Tryz.func10 rfl rfl ?_
 intro F ρ hρ
 refine Sr (We (EO.box (cs := (l25 a0 v0_11 v0_14).toArray) (congrArg Value.cells (asE (a25_ a0 v0_11 v0_14) (hρ 0)))) rfl ?_)
 rintro _ _ _ - ⟨rfl, g21, rfl, rfl⟩
 refine We (Al ze29 rfl) rfl ?_
 rintro _ _ _ - ⟨rfl, g22, rfl, rfl⟩
 refine qa (GV GErr.nil) (Nt (Cs (Sr (qu (a25_ a0 v0_11 v0_14) (La (cs := (l25 a0 v0_11 v0_14)) 1 ag25 sz25 rfl rfl rfl) ?_))))
 obtain ⟨r23, hr24, h⟩ := bnd h
 refine We (Ca co16 (f_rpc_Check_ok a0 _ _ _ h0_11 h0_14 r23 hr24) (args1 rfl)) rfl ?_
 rintro _ M25 _ hle26 ⟨_, ⟨rfl, rfl⟩, rfl⟩
 refine WL.a0 (qa (GV r23) (Ns (qm (GV r23) (qu (Bv (!r23.isNil)) (PO.errNotNil Tryz.underlying31 rfl) (Nt (Cd (b := !r23.isNil) rfl (fun hb28 => ?_) (fun hb28 => ?_)))))))
 have h := ite_t hb28 h
 refine Sr (qu (.agg #[(Iv 0), Zs]) (Bl (cl := [(Iv 0), Zs]) ze29 fp29 Pz rfl) (qm (GV r23) (We (Sg (v := (.agg #[(Iv 0), Zs])) (vl := [(Iv 0), Zs]) (arr' := [(Iv 0), Zs]) rfl sz29 rfl rfl (onb rfl) rfl rfl rfl) rfl ?_)))
 rintro _ _ _ - ⟨rfl, rfl⟩
 exact qa (GV r23) (Nt (Cr (Tr (WQ.e0 (Qb (Dr (Qa (Rd h [[]] (fun _ hs => hs.drop) (resultsLN rfl (RVs.cons (Rc (cs := [(Iv 0), Zs]) 0 ag29 sz29 rfl rfl rfl) (RVs.cons (RV.tmp rfl) RVs.nil))) hle26 ⟨Zs, [], rfl, rfl, (OwnS.nil _ _)⟩))))))))
 have h := ite_f hb28 h
 refine Ck (Tc (Sr (qu (pt g21 0) (Fa fo25_0 rfl rfl) (qu (Iv a0.Kind) (Lb 1 pl3 rfl rfl rfl) ?_))))
 obtain ⟨r30, hr31, h⟩ := bnd h
 refine We (Ca co23 (f_rpc_about_ok a0.Kind _ r30 hr31) (args1 rfl)) rfl ?_
 rintro _ M32 _ hle33 ⟨_, ⟨rfl, rfl⟩, rfl⟩
 refine WL.a0 (We (Al ze3 rfl) rfl ?_)
 rintro _ _ _ - ⟨rfl, g35, rfl, rfl⟩
 refine We (Es (Iv r30) [(Iv r30)] rfl sz3 rfl rfl rfl rfl rfl rfl) rfl ?_
 rintro _ _ _ - ⟨rfl, rfl⟩
 refine Nt ?_
 obtain ⟨x37, hj38, h⟩ := bnd h
 refine Jf (fun (x37 : (List Int)) ρ' M' H' => ∃ g36 vx37 cx37, M32.le M' ∧ [(g35, .cells #[(Iv r30)] 3 (0, 0))] :: [(g22, .cells #[(Iv 0), Zs] 29 (0, 0))] :: [(g21, .cells (l25 a0 v0_11 v0_14).toArray 25 (0, 0))] :: [(g36, .cells #[vx37] 23 (0, 0))] :: cx37 :: F = H' ∧ ρ' 1 = (pt g21 0) ∧ ρ' 2 = (pt g22 0) ∧ ρ' 5 = (pt g35 0) ∧ ρ' 6 = (pt g36 0) ∧ OwnS (Kd.int .u8) M' vx37 x37 cx37) x37 ?_ ?_
 have h := hj38
 refine WC.draw [0, 1, 3, 0, 8, 31, 0, 64, 255, 0, 1023] (.pure 0 (.pure 1 (.pure 3 (.pure 4 (.pure 6 (.pure 7 (.alt 2 (.alt 5 (.alt 8 (.alt 9 (.alt 10 .done .none) .none) (.alt 9 (.alt 8 (.alt 10 .done .none) .none) .none)) (.alt 9 (.alt 5 (.alt 8 (.alt 10 .done .none) .none) .none) .none)) (.alt 9 (.alt 2 (.alt 5 (.alt 8 (.alt 10 .done .none) .none) .none) .none) .none)))))))) mixed (by kernel_rfl) (qt (pt g21 1) rfl (Fa fo25_1 rfl rfl) (qt (Iv a0.From) rfl (Lb 2 pl3 rfl rfl rfl) (qt (pt g21 2) rfl (Fa fo25_2 rfl rfl) (qt (Iv a0.To) rfl (Lb 2 pl3 rfl rfl rfl) (qt (pt g21 3) rfl (Fa fo25_3 rfl rfl) (qt (Iv a0.Term) rfl (Lb 2 pl3 rfl rfl rfl) ?_))))))
 have hk39 := h
 obtain ⟨r41, hr42, h⟩ := bnd h
 refine WT.e0 (Ta rfl (Cb co24 (f_wire_Int_ok [] a0.From _ _ _ (OwnS.nil _ _) r41 hr42) (args2 rfl rfl)) rfl ?_ ?_)
 rintro _ M43 _ hle44 ⟨_, ⟨vq45, cq45, rfl, rfl, hq45⟩, rfl⟩
 refine ⟨(Ss rfl (Lb 3 pl3 rfl rfl rfl) rfl (Ss rfl (Fa fo25_3 rfl rfl) rfl (Ss rfl (Lb 3 pl3 rfl rfl rfl) rfl (Ss rfl (Fa fo25_2 rfl rfl) rfl (Sl rfl))))), ?_⟩
 refine WT.a1 ?_
 have hk46 := h
 obtain ⟨r47, hr48, h⟩ := bnd h
 refine Ta rfl (Cb co24 (f_wire_Int_ok r41 a0.To _ _ _ hq45 r47 hr48) (args2 rfl rfl)) rfl ?_ ?_
 rintro _ M49 _ hle50 ⟨_, ⟨vq51, cq51, rfl, rfl, hq51⟩, rfl⟩
 refine ⟨(Ss rfl (Lb 3 pl3 rfl rfl rfl) rfl (Ss rfl (Fa fo25_3 rfl rfl) rfl (Sl rfl))), ?_⟩
 refine WT.a1 ?_
 have hk52 := h
 obtain ⟨r53, hr54, h⟩ := bnd h
 refine Ta rfl (Cb co24 (f_wire_Int_ok r47 a0.Term _ _ _ hq51 r53 hr54) (args2 rfl rfl)) rfl ?_ ?_
 rintro _ M55 _ hle56 ⟨_, ⟨vq57, cq57, rfl, rfl, hq57⟩, rfl⟩
 refine ⟨(Sl rfl), ?_⟩
 refine WT.a1 (Ta rfl (Al ze23 rfl) rfl ?_ ?_)
 rintro _ _ _ - ⟨rfl, g58, rfl, rfl⟩
 refine ⟨(Ss rfl (Lb 4 pl3 rfl rfl rfl) rfl (Ss rfl (Fa fo25_3 rfl rfl) rfl (Ss rfl (Lb 4 pl3 rfl rfl rfl) rfl (Ss rfl (Fa fo25_2 rfl rfl) rfl (Ss rfl (Lb 4 pl3 rfl rfl rfl) rfl (Ss rfl (Fa fo25_1 rfl rfl) rfl trivial)))))), ?_⟩
 refine Ta rfl (Es vq57 [vq57] hq57.cells sz23 rfl rfl (Ow hq57) rfl rfl rfl) rfl ?_ ?_
 rintro _ _ _ - ⟨rfl, rfl⟩
 refine ⟨(Sl rfl), ?_⟩
 refine Ti (Qa (Qa (WQ.f4 (WQ.f4 (WQ.f4 ?_)))))
 obtain rfl := oi h
 exact Tj ⟨g58, vq57, cq57, ((hle44.trans hle50).trans hle56), rfl, rfl, rfl, rfl, rfl, hq57⟩
 exact Tz
 exact Tz
 have h := hk52
 refine Ta rfl (Al ze23 rfl) rfl ?_ ?_
 rintro _ _ _ - ⟨rfl, g59, rfl, rfl⟩
 refine ⟨(Ss rfl (Lb 4 pl3 rfl rfl rfl) rfl (Ss rfl (Fa fo25_3 rfl rfl) rfl (Ss rfl (Lb 4 pl3 rfl rfl rfl) rfl (Ss rfl (Fa fo25_2 rfl rfl) rfl (Ss rfl (Lb 4 pl3 rfl rfl rfl) rfl (Ss rfl (Fa fo25_1 rfl rfl) rfl trivial)))))), ?_⟩
 obtain ⟨r60, hr61, h⟩ := bnd h
 refine WT.f1 (Ta rfl (Cb co24 (f_wire_Int_ok r47 a0.Term _ _ _ hq51 r60 hr61) (args2 rfl rfl)) rfl ?_ ?_)
 rintro _ M62 _ hle63 ⟨_, ⟨vq64, cq64, rfl, rfl, hq64⟩, rfl⟩
 refine ⟨(Sl rfl), ?_⟩
 refine WT.a1 (WT.f1 (Ta rfl (Es vq64 [vq64] hq64.cells sz23 rfl rfl (Ow hq64) rfl rfl rfl) rfl ?_ ?_))
 rintro _ _ _ - ⟨rfl, rfl⟩
 refine ⟨(Sl rfl), ?_⟩
 refine Ti (Qa (Qa (WQ.f4 (WQ.f4 (WQ.f4 ?_)))))
 obtain rfl := oi h
 exact Tj ⟨g59, vq64, cq64, ((hle44.trans hle50).trans hle63), rfl, rfl, rfl, rfl, rfl, hq64⟩
 exact Tz
 exact Tz
 exact Tz
 have h := hk46
 refine Ta rfl (Al ze23 rfl) rfl ?_ ?_
 rintro _ _ _ - ⟨rfl, g65, rfl, rfl⟩
 refine ⟨(Ss rfl (Lb 4 pl3 rfl rfl rfl) rfl (Ss rfl (Fa fo25_3 rfl rfl) rfl (Ss rfl (Lb 4 pl3 rfl rfl rfl) rfl (Ss rfl (Fa fo25_2 rfl rfl) rfl (Ss rfl (Lb 4 pl3 rfl rfl rfl) rfl (Ss rfl (Fa fo25_1 rfl rfl) rfl trivial)))))), ?_⟩
 obtain ⟨r66, hr67, h⟩ := bnd h
 refine WT.f1 (Ta rfl (Cb co24 (f_wire_Int_ok r41 a0.To _ _ _ hq45 r66 hr67) (args2 rfl rfl)) rfl ?_ ?_)
 rintro _ M68 _ hle69 ⟨_, ⟨vq70, cq70, rfl, rfl, hq70⟩, rfl⟩
 refine ⟨(Ss rfl (Lb 4 pl3 rfl rfl rfl) rfl (Ss rfl (Fa fo25_3 rfl rfl) rfl (Sl rfl))), ?_⟩
 refine WT.a1 ?_
 obtain ⟨r71, hr72, h⟩ := bnd h
 refine Ta rfl (Cb co24 (f_wire_Int_ok r66 a0.Term _ _ _ hq70 r71 hr72) (args2 rfl rfl)) rfl ?_ ?_
 rintro _ M73 _ hle74 ⟨_, ⟨vq75, cq75, rfl, rfl, hq75⟩, rfl⟩
 refine ⟨(Sl rfl), ?_⟩
 refine WT.a1 (WT.f1 (Ta rfl (Es vq75 [vq75] hq75.cells sz23 rfl rfl (Ow hq75) rfl rfl rfl) rfl ?_ ?_))
 rintro _ _ _ - ⟨rfl, rfl⟩
 refine ⟨(Sl rfl), ?_⟩
 refine Ti (Qa (Qa (WQ.f4 (WQ.f4 (WQ.f4 ?_)))))
 obtain rfl := oi h
 exact Tj ⟨g65, vq75, cq75, ((hle44.trans hle69).trans hle74), rfl, rfl, rfl, rfl, rfl, hq75⟩
 exact Tz
 exact Tz
 exact Tz
 exact Tz
 have h := hk39
 refine Ta rfl (Al ze23 rfl) rfl ?_ ?_
 rintro _ _ _ - ⟨rfl, g76, rfl, rfl⟩
 refine ⟨(Ss rfl (Lb 4 pl3 rfl rfl rfl) rfl (Ss rfl (Fa fo25_3 rfl rfl) rfl (Ss rfl (Lb 4 pl3 rfl rfl rfl) rfl (Ss rfl (Fa fo25_2 rfl rfl) rfl (Ss rfl (Lb 4 pl3 rfl rfl rfl) rfl (Ss rfl (Fa fo25_1 rfl rfl) rfl trivial)))))), ?_⟩
 obtain ⟨r78, hr79, h⟩ := bnd h
 refine WT.e0 (Ta rfl (Cb co24 (f_wire_Int_ok [] a0.From _ _ _ (OwnS.nil _ _) r78 hr79) (args2 rfl rfl)) rfl ?_ ?_)
 rintro _ M80 _ hle81 ⟨_, ⟨vq82, cq82, rfl, rfl, hq82⟩, rfl⟩
 refine ⟨(Ss rfl (Lb 5 pl3 rfl rfl rfl) rfl (Ss rfl (Fa fo25_3 rfl rfl) rfl (Ss rfl (Lb 5 pl3 rfl rfl rfl) rfl (Ss rfl (Fa fo25_2 rfl rfl) rfl (Sl rfl))))), ?_⟩
 refine WT.a1 ?_
 obtain ⟨r83, hr84, h⟩ := bnd h
 refine Ta rfl (Cb co24 (f_wire_Int_ok r78 a0.To _ _ _ hq82 r83 hr84) (args2 rfl rfl)) rfl ?_ ?_
 rintro _ M85 _ hle86 ⟨_, ⟨vq87, cq87, rfl, rfl, hq87⟩, rfl⟩
 refine ⟨(Ss rfl (Lb 5 pl3 rfl rfl rfl) rfl (Ss rfl (Fa fo25_3 rfl rfl) rfl (Sl rfl))), ?_⟩
 refine WT.a1 ?_
 obtain ⟨r88, hr89, h⟩ := bnd h
 refine Ta rfl (Cb co24 (f_wire_Int_ok r83 a0.Term _ _ _ hq87 r88 hr89) (args2 rfl rfl)) rfl ?_ ?_
 rintro _ M90 _ hle91 ⟨_, ⟨vq92, cq92, rfl, rfl, hq92⟩, rfl⟩
 refine ⟨(Sl rfl), ?_⟩
 refine WT.a1 (WT.f1 (Ta rfl (Es vq92 [vq92] hq92.cells sz23 rfl rfl (Ow hq92) rfl rfl rfl) rfl ?_ ?_))
 rintro _ _ _ - ⟨rfl, rfl⟩
 refine ⟨(Sl rfl), ?_⟩
 refine Ti (Qb (Dr (Qa (Qa (WQ.f4 (WQ.f4 (WQ.f4 ?_)))))))
 obtain rfl := oi h
 exact Tj ⟨g76, vq92, cq92, ((hle81.trans hle86).trans hle91), rfl, rfl, rfl, rfl, rfl, hq92⟩
 exact Tz
 exact Tz
 exact Tz
 exact Tz
 exact Tz
 rintro ρ38 M38 H38 ⟨g36, vx37, cx37, hle38, rfl, hs38_1, hs38_2, hs38_5, hs38_6, hx37⟩
 have L38 := (hle26.trans hle33).trans hle38
 refine Sr (qu (.func (.func 25) #[] #[(pt g35 0), (pt g36 0)]) (PO.makeFunc2 (args0) (args2 (asE (Value.pointer (some ⟨g35, 0, none⟩)) hs38_5) (asE (Value.pointer (some ⟨g36, 0, none⟩)) hs38_6))) (qa (.func (.func 25) #[] #[(pt g35 0), (pt g36 0)]) (Nt ?_)))
 obtain ⟨x93, hj94, h⟩ := bnd h
 refine Jf (fun (x93 : (List Int)) ρ' M' H' => ∃ vx93 cx93, M38.le M' ∧ [(g35, .cells #[(Iv r30)] 3 (0, 0))] :: [(g22, .cells #[(Iv 0), Zs] 29 (0, 0))] :: [(g21, .cells (l25 a0 v0_11 v0_14).toArray 25 (0, 0))] :: [(g36, .cells #[vx93] 23 (0, 0))] :: cx93 :: F = H' ∧ ρ' 1 = (pt g21 0) ∧ ρ' 2 = (pt g22 0) ∧ ρ' 5 = (pt g35 0) ∧ ρ' 6 = (pt g36 0) ∧ ρ' 7 = (.func (.func 25) #[] #[(pt g35 0), (pt g36 0)]) ∧ OwnS (Kd.int .u8) M' vx93 x93 cx93) x93 ?_ ?_
 have h := hj94
 refine Sr (qu (Iv r30) (Lb 0 pl3 hs38_5 rfl rfl) (qu (Iv (andI .i64 r30 (1 : Int))) (PO.and rfl rfl) (qu (Bv (decide ((andI .i64 r30 (1 : Int)) ≠ 0))) (PO.neq rfl rfl) (Nt (Cd (b := decide ((andI .i64 r30 (1 : Int)) ≠ 0)) rfl (fun hb95 => ?_) (fun hb95 => ?_))))))
 have h := ite_t hb95 h
 refine Cg (qu vx37 (Lb 3 pl23 hs38_6 rfl rfl) (qu (pt g21 4) (Fa fo25_4 hs38_1 rfl) (qu (Bv a0.Pre) (Lb 2 pl4 rfl rfl rfl) ?_)))
 obtain ⟨r96, hr97, h⟩ := bnd h
 refine WL.f4 (We (Cb co26 (f_wire_Flag_ok x37 a0.Pre _ _ _ hx37 r96 hr97) (args2 rfl rfl)) rfl ?_)
 rintro _ M98 _ hle99 ⟨_, ⟨vq100, cq100, rfl, rfl, hq100⟩, rfl⟩
 refine WL.a1 (WL.f4 (We (Es vq100 [vq100] hq100.cells sz23 hs38_6 rfl (Ow hq100) rfl rfl rfl) rfl ?_))
 rintro _ _ _ - ⟨rfl, rfl⟩
 refine Wz (Qa (Qa (WQ.f4 (WQ.f4 (WQ.f4 ?_)))))
 obtain rfl := oi h
 exact Tj ⟨vq100, cq100, hle99, rfl, hs38_1, hs38_2, hs38_5, hs38_6, rfl, hq100⟩
 have h := ite_f hb95 h
 refine Ck ?_
 obtain rfl := oi h
 exact Tj ⟨vx37, cx37, lr, rfl, hs38_1, hs38_2, hs38_5, hs38_6, rfl, hx37⟩
 rintro ρ94 M94 H94 ⟨vx93, cx93, hle94, rfl, hs94_1, hs94_2, hs94_5, hs94_6, hs94_7, hx93⟩
 have L94 := L38.trans hle94
 obtain ⟨x101, hj102, h⟩ := bnd h
 refine Jf (fun (x101 : (List Int)) ρ' M' H' => ∃ vx101 cx101, M94.le M' ∧ [(g35, .cells #[(Iv r30)] 3 (0, 0))] :: [(g22, .cells #[(Iv 0), Zs] 29 (0, 0))] :: [(g21, .cells (l25 a0 v0_11 v0_14).toArray 25 (0, 0))] :: [(g36, .cells #[vx101] 23 (0, 0))] :: cx101 :: F = H' ∧ ρ' 1 = (pt g21 0) ∧ ρ' 2 = (pt g22 0) ∧ ρ' 6 = (pt g36 0) ∧ ρ' 7 = (.func (.func 25) #[] #[(pt g35 0), (pt g36 0)]) ∧ OwnS (Kd.int .u8) M' vx101 x101 cx101) x101 ?_ ?_
 have h := hj102
 refine Sr (qu (Iv r30) (Lb 0 pl3 hs94_5 rfl rfl) (qu (Iv (andI .i64 r30 (2 : Int))) (PO.and rfl rfl) (qu (Bv (decide ((andI .i64 r30 (2 : Int)) ≠ 0))) (PO.neq rfl rfl) (Nt (Cd (b := decide ((andI .i64 r30 (2 : Int)) ≠ 0)) rfl (fun hb103 => ?_) (fun hb103 => ?_))))))
 have h := ite_t hb103 h
 refine Cg (qu vx93 (Lb 3 pl23 hs94_6 rfl rfl) (qu (pt g21 5) (Fa fo25_5 hs94_1 rfl) (qu (Bv a0.Ok) (Lb 2 pl4 rfl rfl rfl) ?_)))
 obtain ⟨r104, hr105, h⟩ := bnd h
 refine WL.f4 (We (Cb co26 (f_wire_Flag_ok x93 a0.Ok _ _ _ hx93 r104 hr105) (args2 rfl rfl)) rfl ?_)
 rintro _ M106 _ hle107 ⟨_, ⟨vq108, cq108, rfl, rfl, hq108⟩, rfl⟩
 refine WL.a1 (WL.f4 (We (Es vq108 [vq108] hq108.cells sz23 hs94_6 rfl (Ow hq108) rfl rfl rfl) rfl ?_))
 rintro _ _ _ - ⟨rfl, rfl⟩
 refine Wz (Qa (Qa (WQ.f4 (WQ.f4 (WQ.f4 ?_)))))
 obtain rfl := oi h
 exact Tj ⟨vq108, cq108, hle107, rfl, hs94_1, hs94_2, hs94_6, hs94_7, hq108⟩
 have h := ite_f hb103 h
 refine Ck ?_
 obtain rfl := oi h
 exact Tj ⟨vx93, cx93, lr, rfl, hs94_1, hs94_2, hs94_6, hs94_7, hx93⟩
 rintro ρ102 M102 H102 ⟨vx101, cx101, hle102, rfl, hs102_1, hs102_2, hs102_6, hs102_7, hx101⟩
 have L102 := L94.trans hle102
 refine Sr (qM (.func (.func 25) #[] #[(pt g35 0), (pt g36 0)]) hs102_7 (qu (pt g21 6) (Fa fo25_6 hs102_1 rfl) (qu (Iv a0.Leader) (Lb 2 pl3 rfl rfl rfl) ?_)))
 obtain ⟨r109, hr110, h⟩ := bnd h
 refine WL.f4 (WL.f4 (Wb (We (EO.callV3 (first := #[]) (cap := #[(pt g35 0), (pt g36 0)]) co25 rfl (f_rpc_Put_1_ok (4 : Int) a0.Leader r30 x101 _ _ _ _ _ hx101 r109 hr110) (argsV2 rfl rfl rfl)) rfl ?_)))
 rintro _ M111 _ hle112 ⟨_, ⟨v113, c115, rfl, rfl, h114⟩, rfl⟩
 have L112 := L102.trans hle112
 refine WL.a3 (Ns (qM (.func (.func 25) #[] #[(pt g35 0), (pt g36 0)]) hs102_7 (qu (pt g21 7) (Fa fo25_7 hs102_1 rfl) (qu (Iv a0.At) (Lb 4 pl3 rfl rfl rfl) ?_))))
 obtain ⟨r116, hr117, h⟩ := bnd h
 refine Wb (Wb (Wb (We (EO.callV3 (first := #[]) (cap := #[(pt g35 0), (pt g36 0)]) co25 rfl (f_rpc_Put_1_ok (8 : Int) a0.At r30 r109 _ _ _ _ _ h114 r116 hr117) (argsV2 rfl rfl rfl)) rfl ?_)))
 rintro _ M118 _ hle119 ⟨_, ⟨v120, c122, rfl, rfl, h121⟩, rfl⟩
 have L119 := L112.trans hle119
 refine WL.a3 (Ns (qM (.func (.func 25) #[] #[(pt g35 0), (pt g36 0)]) hs102_7 (qu (pt g21 8) (Fa fo25_8 hs102_1 rfl) (qu (Iv a0.AtTerm) (Lb 4 pl3 rfl rfl rfl) ?_))))
 obtain ⟨r123, hr124, h⟩ := bnd h
 refine Wb (Wb (Wb (We (EO.callV3 (first := #[]) (cap := #[(pt g35 0), (pt g36 0)]) co25 rfl (f_rpc_Put_1_ok (8 : Int) a0.AtTerm r30 r116 _ _ _ _ _ h121 r123 hr124) (argsV2 rfl rfl rfl)) rfl ?_)))
 rintro _ M125 _ hle126 ⟨_, ⟨v127, c129, rfl, rfl, h128⟩, rfl⟩
 have L126 := L119.trans hle126
 refine WL.a3 (Ns (qM (.func (.func 25) #[] #[(pt g35 0), (pt g36 0)]) hs102_7 (qu (pt g21 9) (Fa fo25_9 hs102_1 rfl) (qu (Iv a0.High) (Lb 4 pl3 rfl rfl rfl) ?_))))
 obtain ⟨r130, hr131, h⟩ := bnd h
 refine Wb (Wb (Wb (We (EO.callV3 (first := #[]) (cap := #[(pt g35 0), (pt g36 0)]) co25 rfl (f_rpc_Put_1_ok (16 : Int) a0.High r30 r123 _ _ _ _ _ h128 r130 hr131) (argsV2 rfl rfl rfl)) rfl ?_)))
 rintro _ M132 _ hle133 ⟨_, ⟨v134, c136, rfl, rfl, h135⟩, rfl⟩
 have L133 := L126.trans hle133
 refine WL.a3 (Ns (qM (.func (.func 25) #[] #[(pt g35 0), (pt g36 0)]) hs102_7 (qu (pt g21 10) (Fa fo25_10 hs102_1 rfl) (qu (Iv a0.Code) (Lb 4 pl3 rfl rfl rfl) ?_))))
 obtain ⟨r137, hr138, h⟩ := bnd h
 refine Wb (Wb (Wb (We (EO.callV3 (first := #[]) (cap := #[(pt g35 0), (pt g36 0)]) co25 rfl (f_rpc_Put_1_ok (32 : Int) a0.Code r30 r130 _ _ _ _ _ h135 r137 hr138) (argsV2 rfl rfl rfl)) rfl ?_)))
 rintro _ M139 _ hle140 ⟨_, ⟨v141, c143, rfl, rfl, h142⟩, rfl⟩
 have L140 := L133.trans hle140
 refine WL.a3 (Ns (qM (.func (.func 25) #[] #[(pt g35 0), (pt g36 0)]) hs102_7 (qu (pt g21 12) (Fa fo25_12 hs102_1 rfl) (qu (Iv a0.Size) (Lb 4 pl3 rfl rfl rfl) ?_))))
 obtain ⟨r144, hr145, h⟩ := bnd h
 refine Wb (Wb (Wb (We (EO.callV3 (first := #[]) (cap := #[(pt g35 0), (pt g36 0)]) co25 rfl (f_rpc_Put_1_ok (128 : Int) a0.Size r30 r137 _ _ _ _ _ h142 r144 hr145) (argsV2 rfl rfl rfl)) rfl ?_)))
 rintro _ M146 _ hle147 ⟨_, ⟨v148, c150, rfl, rfl, h149⟩, rfl⟩
 have L147 := L140.trans hle147
 refine WL.a3 (Ns (qM (.func (.func 25) #[] #[(pt g35 0), (pt g36 0)]) hs102_7 (qu (pt g21 13) (Fa fo25_13 hs102_1 rfl) (qu (Iv a0.Pos) (Lb 4 pl3 rfl rfl rfl) ?_))))
 obtain ⟨r151, hr152, h⟩ := bnd h
 refine Wb (Wb (Wb (We (EO.callV3 (first := #[]) (cap := #[(pt g35 0), (pt g36 0)]) co25 rfl (f_rpc_Put_1_ok (256 : Int) a0.Pos r30 r144 _ _ _ _ _ h149 r151 hr152) (argsV2 rfl rfl rfl)) rfl ?_)))
 rintro _ M153 _ hle154 ⟨_, ⟨v155, c157, rfl, rfl, h156⟩, rfl⟩
 have L154 := L147.trans hle154
 refine WL.a3 (Nt ?_)
 obtain ⟨x158, hj159, h⟩ := bnd h
 refine Jf (fun (x158 : (List Int)) ρ' M' H' => ∃ vx158 cx158, M153.le M' ∧ [(g35, .cells #[(Iv r30)] 3 (0, 0))] :: [(g36, .cells #[vx158] 23 (0, 0))] :: [(g22, .cells #[(Iv 0), Zs] 29 (0, 0))] :: [(g21, .cells (l25 a0 v0_11 v0_14).toArray 25 (0, 0))] :: cx158 :: F = H' ∧ ρ' 1 = (pt g21 0) ∧ ρ' 2 = (pt g22 0) ∧ ρ' 6 = (pt g36 0) ∧ ρ' 7 = (.func (.func 25) #[] #[(pt g35 0), (pt g36 0)]) ∧ OwnS (Kd.int .u8) M' vx158 x158 cx158) x158 ?_ ?_
 have h := hj159
 refine Sr (qu (pt g21 0) (Fa fo25_0 hs102_1 rfl) (qu (Iv a0.Kind) (Lb 4 pl3 rfl rfl rfl) (qu (Bv (decide (a0.Kind = 8))) (PO.eql rfl rfl) (Nt (Cd (b := decide (a0.Kind = 8)) rfl (fun hb160 => ?_) (fun hb160 => ?_))))))
 have h := ite_t hb160 h
 refine Cg (qu v155 (Lb 1 pl23 hs102_6 rfl rfl) (qu (pt g21 14) (Fa fo25_14 hs102_1 rfl) (qu v0_14 (Lb 4 pl23 rfl rfl rfl) ?_)))
 obtain ⟨r161, hr162, h⟩ := bnd h
 refine Wb ?_
 have h0_14 := h0_14.mono L154
 refine We (Cb co27 (f_wire_Text_ok r151 a0.Data _ _ _ _ h156 h0_14 r161 hr162) (args2 rfl rfl)) rfl ?_
 rintro _ M163 _ hle164 ⟨_, ⟨vq165, cq165, rfl, rfl, hq165⟩, rfl⟩
 refine WL.a1 (Wb (We (Es vq165 [vq165] hq165.cells sz23 hs102_6 rfl (Ow hq165) rfl rfl rfl) rfl ?_))
 rintro _ _ _ - ⟨rfl, rfl⟩
 refine Wz (Qa (WQ.f4 (WQ.f4 (WQ.f3 (WQ.f4 ?_)))))
 obtain rfl := oi h
 exact Tj ⟨vq165, cq165, hle164, rfl, hs102_1, hs102_2, hs102_6, hs102_7, hq165⟩
 have h := ite_f hb160 h
 refine Ck (Qb (WQ.f4 (WQ.f4 (WQ.f4 (WQ.f4 ?_)))))
 obtain rfl := oi h
 exact Tj ⟨v155, c157, lr, rfl, hs102_1, hs102_2, hs102_6, hs102_7, h156⟩
 rintro ρ159 M159 H159 ⟨vx158, cx158, hle159, rfl, hs159_1, hs159_2, hs159_6, hs159_7, hx158⟩
 have L159 := L154.trans hle159
 refine Sr (qM (.func (.func 25) #[] #[(pt g35 0), (pt g36 0)]) hs159_7 (qu (pt g21 11) (Fa fo25_11 hs159_1 rfl) (qu v0_11 (Lb 3 pl22 rfl rfl rfl) ?_)))
 have h0_11 := h0_11.mono L159
 refine qu (Iv (a0.Batches.length : Int)) (PO.lenS Tryz.underlying22 rfl h0_11.len) ?_
 obtain ⟨r166, hr167, h⟩ := bnd h
 refine WL.f4 (Wb (Wb (We (EO.callV3 (first := #[]) (cap := #[(pt g35 0), (pt g36 0)]) co25 rfl (f_rpc_Put_1_ok (64 : Int) (a0.Batches.length : Int) r30 x158 _ _ _ _ _ hx158 r166 hr167) (argsV2 rfl rfl rfl)) rfl ?_)))
 rintro _ M168 _ hle169 ⟨_, ⟨v170, c172, rfl, rfl, h171⟩, rfl⟩
 have L169 := L159.trans hle169
 refine WL.a3 (Nt ?_)
 obtain ⟨j174, hj174, h⟩ := bnd h
 refine WC.joinE (fun (x173 : (List Int)) ρ' M' H' => ∃ vx173 cx173, M168.le M' ∧ [(g35, .cells #[(Iv r30)] 3 (0, 0))] :: [(g36, .cells #[vx173] 23 (0, 0))] :: [(g22, .cells #[(Iv 0), Zs] 29 (0, 0))] :: [(g21, .cells (l25 a0 v0_11 v0_14).toArray 25 (0, 0))] :: cx173 :: F = H' ∧ ρ' 1 = (pt g21 0) ∧ ρ' 2 = (pt g22 0) ∧ ρ' 6 = (pt g36 0) ∧ OwnS (Kd.int .u8) M' vx173 x173 cx173) j174 ?_ ?_
 have h3174 := h
 have h := hj174
 refine Sr (qu (pt g21 11) (Fa fo25_11 hs159_1 rfl) (qu v0_11 (Lb 4 pl22 rfl rfl rfl) ?_))
 have h0_11 := h0_11.mono hle169
 refine qu (Iv (a0.Batches.length : Int)) (PO.lenS Tryz.underlying22 rfl h0_11.len) (qm (Iv 0) (Nt (Bk (WC.f2 (WC.f4 (WC.f4 (WC.f4 (WC.f4 ?_))))))))
 obtain ⟨e175, he175, hK175⟩ := bnd h
 clear h
 refine WC.loop he175 (fun (p_ : (Int × (List Int))) ρ' M' H' => match p_ with | (x176, x177) => ∃ vx177 cx177, M168.le M' ∧ [(g35, .cells #[(Iv r30)] 3 (0, 0))] :: [(g36, .cells #[vx177] 23 (0, 0))] :: [(g22, .cells #[(Iv 0), Zs] 29 (0, 0))] :: [(g21, .cells (l25 a0 v0_11 v0_14).toArray 25 (0, 0))] :: cx177 :: F = H' ∧ ρ' 1 = (pt g21 0) ∧ ρ' 2 = (pt g22 0) ∧ ρ' 6 = (pt g36 0) ∧ ρ' 86 = v0_11 ∧ ρ' 87 = (Iv (a0.Batches.length : Int)) ∧ ρ' 88 = (Iv x176) ∧ OwnS (Kd.int .u8) M' vx177 x177 cx177) ?_ ?_
 exact ⟨v170, c172, lr, rfl, hs159_1, hs159_2, hs159_6, rfl, rfl, rfl, h171⟩
 rintro ⟨x176, x177⟩ o175 ρ175 M175 H175 h ⟨vx177, cx177, hle175, rfl, hs175_1, hs175_2, hs175_6, hs175_86, hs175_87, hs175_88, hx177⟩
 unfold f_rpc_Put_l0 at h
 refine Sr (qu (Bv (decide (x176 < (a0.Batches.length : Int)))) (PO.lss hs175_88 hs175_87) (Nt (Cs (Cd (b := decide (x176 < (a0.Batches.length : Int))) rfl (fun hb181 => ?_) (fun hb181 => ?_)))))
 have h := ite_t hb181 h
 refine Ck (Tc (Cs (Bk (Sr (qM (Iv x176) hs175_88 ?_)))))
 obtain ⟨hg182, h⟩ := grd_i h
 have h0_11 := h0_11.mono hle175
 obtain ⟨p183, cs184, hat185, hrc186, hhas187⟩ := h0_11.at hg182.1 hg182.2 (by decide)
 obtain ⟨vw188_2, rfl, hw188_2⟩ := kd_api_Batch_open hrc186
 refine qu (.pointer (some p183)) (PO.indexAddr (n := a0.Batches.length) Tryz.underlying22 sz55 hs175_86 hs175_88 hg182.1 hg182.2 hat185) (qu (a55_ (rd a0.Batches x176) vw188_2) (PO.loadMA (cs := (l55 (rd a0.Batches x176) vw188_2)) ag55 sz55 rfl hhas187) (We (Al ze55 rfl) rfl ?_))
 rintro _ _ _ - ⟨rfl, g189, rfl, rfl⟩
 refine qa (Iv x176) (We (Sg (v := (a55_ (rd a0.Batches x176) vw188_2)) (vl := (l55 (rd a0.Batches x176) vw188_2)) (arr' := (l55 (rd a0.Batches x176) vw188_2)) rfl sz55 rfl rfl (onesOf (Oc rfl (Oc rfl (Oc (RS.one hw188_2) Oz)))) rfl rfl rfl) rfl ?_)
 rintro _ _ _ - ⟨rfl, rfl⟩
 refine Ns (qu (a55_ (rd a0.Batches x176) vw188_2) (La (cs := (l55 (rd a0.Batches x176) vw188_2)) 0 ag55 sz55 rfl rfl rfl) ?_)
 obtain ⟨⟨r190, r191⟩, hr192, h⟩ := bnd h
 refine We (Ca co28 (f_batch_Put_ok (rd a0.Batches x176) _ _ hw188_2 (r190, r191) hr192) (args1 rfl)) rfl ?_
 rintro _ M193 _ hle194 ⟨_, ⟨vq195, cq195, rfl, rfl, hq195⟩, rfl⟩
 refine WL.a1 (qm (.tuple #[vq195, (GV r191)]) (qu vq195 (Xt rfl rfl) (qu (GV r191) (Xt rfl rfl) (qa vq195 (qa (GV r191) (Nt (Cs (Sr (qm (GV r191) (qu (Bv (!r191.isNil)) (PO.errNotNil Tryz.underlying31 rfl) (Nt ?_)))))))))))
 refine Cd (b := !r191.isNil) rfl (fun hb197 => ?_) (fun hb197 => ?_)
 have h := ite_t hb197 h
 refine Sr (qu (.agg #[(Iv 0), Zs]) (Bl (cl := [(Iv 0), Zs]) ze29 fp29 Pz rfl) (qm (Iv x176) (qm (GV r191) ?_)))
 obtain ⟨r198, hr199, h⟩ := bnd h
 refine We (Ca co29 (f_fault_Wrap_ok ⟨#[98, 97, 116, 99, 104]⟩ x176 r191 _ r198 hr199) (args3 rfl rfl rfl)) rfl ?_
 rintro _ M200 _ hle201 ⟨_, ⟨rfl, rfl⟩, rfl⟩
 refine WL.a0 (WL.f4 (We (Sg (v := (.agg #[(Iv 0), Zs])) (vl := [(Iv 0), Zs]) (arr' := [(Iv 0), Zs]) rfl sz29 hs175_2 rfl (onb rfl) rfl rfl rfl) rfl ?_))
 rintro _ _ _ - ⟨rfl, rfl⟩
 refine qa (GV r198) (Nt (Cr (Tr (Br (Tr (WQ.leaveR (Sum.inr (r198, x177)) (oi h).symm (fun heq175 => ?_)))))))
 subst heq175
 have h := (elimR hK175)
 refine Br (Tr ?_)
 have h := KK.early h h3174
 refine WQ.e0 (Qb (Dr (Qb (Dr (Qb (Dr (Qb (Dr (Qb (Dr (Qb ?_)))))))))))
 exact Dr (Qa (Rd h [[]] (fun _ hs => hs.drop) (resultsLN rfl (RVs.cons (Rc (cs := [(Iv 0), Zs]) 0 ag29 sz29 hs175_2 rfl rfl) (RVs.cons (RV.tmp rfl) RVs.nil))) (((L169.trans hle175).trans hle194).trans hle201) ⟨Zs, [], rfl, rfl, (OwnS.nil _ _)⟩))
 have h := ite_f hb197 h
 refine Ck (Tc (Cg (qu vx177 (Lb 3 pl23 hs175_6 rfl rfl) (qm vq195 ?_))))
 obtain ⟨hg207, h⟩ := grd_i h
 refine WL.f6 ?_
 have hx177 := hx177.mono hle194
 refine We (EO.append (dd := (Kd.int .u8)) (xs := x177) (ys := r190) Tryz.underlying23 Tryz.underlying23 in5 rfl (appB (by decide) hg207) (by decide) rfl rfl hx177 (hq195.src 1 rfl)) rfl ?_
 rintro v206 _ _ - ⟨rfl, c204, rfl, h205⟩
 refine WL.f4 (We (Es v206 [v206] h205.cells sz23 hs175_6 rfl (Ow h205) rfl rfl rfl) rfl ?_)
 rintro _ _ _ - ⟨rfl, rfl⟩
 refine Wz (Bn (Tc (Cg (qu (Iv (IntKind.i64.wrap (x176 + 1))) (PO.add hs175_88 rfl) (qm (Iv (IntKind.i64.wrap (x176 + 1))) (Wz (Qb (Dr (Qb (Dr (Qa ?_)))))))))))
 exact WQ.f4 (WQ.f4 (WQ.f3 (WQ.f4 (WQ.again (IntKind.i64.wrap (x176 + 1), x177 ++ r190) (oi h).symm ⟨v206, c204, (hle175.trans hle194), rfl, hs175_1, hs175_2, hs175_6, hs175_86, hs175_87, rfl, h205⟩))))
 have h := ite_f hb181 h
 refine WC.exit (WQ.thenE (WQ.leaveE (Sum.inl x177) (oi h).symm (fun heq175 => ?_)))
 subst heq175
 have h := elimL hK175
 exact WQ.blockH (WQ.thenFE h ⟨vx177, cx177, hle175, rfl, hs175_1, hs175_2, hs175_6, hx177⟩)
 rintro x173 ρ174 M174 H174 rfl ⟨vx173, cx173, hle174, rfl, hs174_1, hs174_2, hs174_6, hx173⟩
 have h := (Sum.elim_inl _ _ _).symm.trans h
 refine Cs (Sr (qu vx173 (Lb 1 pl23 hs174_6 rfl rfl) (qu (Iv (x173.length : Int)) (PO.lenS Tryz.underlying23 rfl hx173.len) (qu (Bv (decide ((16384 : Int) < (x173.length : Int)))) (PO.gtr rfl rfl) (Nt (Cd (b := decide ((16384 : Int) < (x173.length : Int))) rfl (fun hb209 => ?_) (fun hb209 => ?_)))))))
 have h := ite_t hb209 h
 refine Sr (qu (.agg #[(Iv 0), Zs]) (Bl (cl := [(Iv 0), Zs]) ze29 fp29 Pz rfl) (qu vx173 (Lb 1 pl23 hs174_6 rfl rfl) (qu (Iv (x173.length : Int)) (PO.lenS Tryz.underlying23 rfl hx173.len) ?_)))
 obtain ⟨r210, hr211, h⟩ := bnd h
 refine We (Ca co30 (f_fault_New_ok ⟨#[109, 101, 115, 115, 97, 103, 101]⟩ (x173.length : Int) (6 : Int) _ r210 hr211) (args3 rfl rfl rfl)) rfl ?_
 rintro _ M212 _ hle213 ⟨_, ⟨rfl, rfl⟩, rfl⟩
 refine WL.a0 (Wb (We (Sg (v := (.agg #[(Iv 0), Zs])) (vl := [(Iv 0), Zs]) (arr' := [(Iv 0), Zs]) rfl sz29 hs174_2 rfl (onb rfl) rfl rfl rfl) rfl ?_))
 rintro _ _ _ - ⟨rfl, rfl⟩
 refine qa (GV r210) (Nt (Cr (Tr (WQ.e0 (Qb (Dr (Qb (Dr (Qb (Dr (Qb ?_)))))))))))
 exact Dr (Qa (Rd h [[]] (fun _ hs => hs.drop) (resultsLN rfl (RVs.cons (Rc (cs := [(Iv 0), Zs]) 0 ag29 sz29 hs174_2 rfl rfl) (RVs.cons (RV.tmp rfl) RVs.nil))) ((L169.trans hle174).trans hle213) ⟨Zs, [], rfl, rfl, (OwnS.nil _ _)⟩))
 have h := ite_f hb209 h
 refine Ck (Tc (Sr (qu (pt g21 0) (Fa fo25_0 hs174_1 rfl) (qu (Iv a0.Kind) (Lb 3 pl3 rfl rfl rfl) (qu vx173 (Lb 1 pl23 hs174_6 rfl rfl) (qu (.agg #[(Iv a0.Kind), vx173]) (Bl (cl := [(Iv a0.Kind), vx173]) ze29 fp29 (Pc (Iv a0.Kind) rfl rfl (Parts.cons ((congrArg Value.cells (show ev _ _ = vx173 from rfl)).trans hx173.cells) Pz)) rfl) (Wb (We (Sg (v := (.agg #[(Iv a0.Kind), vx173])) (vl := [(Iv a0.Kind), vx173]) (arr' := [(Iv a0.Kind), vx173]) rfl sz29 hs174_2 rfl (onesOf (Oc rfl (Oc (Ow hx173) Oz))) rfl rfl rfl) rfl ?_))))))))
 rintro _ _ _ - ⟨rfl, rfl⟩
 exact qa (GV GErr.nil) (Nt (Cr (Qa (Dr (Qa (Dr (Qa (Dr (Rd h [cx173] (fun _ hs => hs.drop) (resultsLN rfl (RVs.cons (Rc (cs := [(Iv a0.Kind), vx173]) 0 ag29 sz29 hs174_2 rfl rfl) (RVs.cons (RV.tmp rfl) RVs.nil))) (L169.trans hle174) ⟨vx173, cx173, rfl, rfl, hx173⟩)))))))))

noncomputable def f_wire_Read (a0 : (List Int)) : Option T_wire_Reader :=
  (some (⟨a0, (0 : Int), GErr.nil⟩ : T_wire_Reader))
def f_wire_Read_post (a0 : (List Int)) (v0 : Value) : T_wire_Reader → Value → IM → HL → Prop :=
  fun (r0 : T_wire_Reader) (v : Value) (M' : IM) (H' : HL) => ∃ b0 vq0_0, (.pointer (some ⟨b0, 0, none⟩)) = v ∧ H' = [[(b0, .cells #[vq0_0, (.int .i64 r0.at_), (GV r0.err)] 110 (0, 0))]] ∧ RS (Kd.int .u8) M' vq0_0 r0.b
theorem f_wire_Read_ok (a0 : (List Int)) (M : IM) (v0 : Value) (h0 : RS (Kd.int .u8) M v0 a0) (res : T_wire_Reader) (h : f_wire_Read a0 = some res) :
    Tri Tryz.prog 31 #[v0] M [] (f_wire_Read_post a0 v0 res) := by
 unfold f_wire_Read at h
 refine Te Tryz.func31 rfl rfl ?_
 intro F ρ hρ
 refine Sr (qa (.pointer none) (Ns (qM v0 (hρ 0) (qu (.agg #[v0, (Iv 0), (GV GErr.nil)]) (Bl (cl := [v0, (Iv 0), (GV GErr.nil)]) ze110 fp110 (Parts.cons ((congrArg Value.cells (show ev _ _ = v0 from rfl)).trans h0.cells) Pz) rfl) (We (EO.box (cs := #[v0, (Iv 0), (GV GErr.nil)]) (congrArg Value.cells (show ev _ _ = (.agg #[v0, (Iv 0), (GV GErr.nil)]) from rfl))) rfl ?_)))))
 rintro _ _ _ - ⟨rfl, g21, rfl, rfl⟩
 exact qa (pt g21 0) (Nt (Cr (Rf h [[(g21, .cells #[v0, (Iv 0), (GV GErr.nil)] 110 (0, 0))]] rfl (Rs rfl rfl) lr ⟨g21, v0, rfl, rfl, h0⟩)))

noncomputable def f_wire_Reader_fail (a0 : T_wire_Reader) (a1 : ByteArray) (a2 : Int) (a3 : Int) : Option GErr :=
  (if a0.err.isNil = true then ((f_fault_New a1 a2 a3).bind fun r22 => (some r22)) else (some a0.err))
def f_wire_Reader_fail_post (a0 : T_wire_Reader) (a1 : ByteArray) (a2 : Int) (a3 : Int) (v0_0 : Value) (g0 : Nat) : GErr → Value → IM → HL → Prop :=
  fun (r0 : GErr) (v : Value) (M' : IM) (H' : HL) => (.tuple #[]) = v ∧ H' = [[(g0, .cells #[v0_0, (.int .i64 a0.at_), (GV r0)] 110 (0, 0))]]
theorem f_wire_Reader_fail_ok (a0 : T_wire_Reader) (a1 : ByteArray) (a2 : Int) (a3 : Int) (M : IM) (v0_0 : Value) (g0 : Nat) (h0_0 : RS (Kd.int .u8) M v0_0 a0.b) (res : GErr) (h : f_wire_Reader_fail a0 a1 a2 a3 = some res) :
    Tri Tryz.prog 69 #[(pt g0 0), (Sv a1), (Iv a2), (Iv a3)] M [[(g0, .cells #[v0_0, (Iv a0.at_), (GV a0.err)] 110 (0, 0))]] (f_wire_Reader_fail_post a0 a1 a2 a3 v0_0 g0 res) := by
 unfold f_wire_Reader_fail at h
 refine Te Tryz.func69 rfl rfl ?_
 intro F ρ hρ
 refine Sr (qM (pt g0 0) (hρ 0) (qu (pt g0 0) (Nk rfl) (qu (pt g0 2) (Fa fo110_2 rfl rfl) (qu (GV a0.err) (Lb 0 pl31 rfl rfl rfl) (qu (Bv a0.err.isNil) (PO.errNil Tryz.underlying31 rfl) (Nt (Cd (b := a0.err.isNil) rfl (fun hb21 => ?_) (fun hb21 => ?_))))))))
 have h := ite_t hb21 h
 refine Cg (qM (pt g0 0) (hρ 0) (qM (Sv a1) (hρ 1) (qM (Iv a2) (hρ 2) (qM (Iv a3) (hρ 3) ?_))))
 obtain ⟨r22, hr23, h⟩ := bnd h
 refine We (Ca co30 (f_fault_New_ok a1 a2 a3 _ r22 hr23) (args3 rfl rfl rfl)) rfl ?_
 rintro _ M24 _ hle25 ⟨_, ⟨rfl, rfl⟩, rfl⟩
 refine WL.a0 (qu (pt g0 0) (Nk rfl) (qu (pt g0 2) (Fa fo110_2 rfl rfl) (We (Es (GV r22) [v0_0, (Iv a0.at_), (GV r22)] (GErr.val_cells _ _ _ _) sz31 rfl rfl (GErr.val_one _ _ _ _) rfl rfl rfl) rfl ?_)))
 rintro _ _ _ - ⟨rfl, rfl⟩
 exact Wz (WQ.endsF h [[(g0, .cells #[v0_0, (Iv a0.at_), (GV r22)] 110 (0, 0))]] rfl (results0 rfl) hle25 ⟨rfl, rfl⟩)
 have h := ite_f hb21 h
 exact Ck (WQ.endsF h [[(g0, .cells #[v0_0, (Iv a0.at_), (GV a0.err)] 110 (0, 0))]] rfl (results0 rfl) lr ⟨rfl, rfl⟩)

noncomputable def f_wire_Reader_Num_1 (a0 : Int) (a1 : (List Int)) (a2 : Int) : Option (Int × Int) :=
  (grd (0 ≤ a2 ∧ a2 < a1.length) (some (orI .u64 (shlI .u64 a0 (8 : Int)) (IntKind.u64.wrap (rd a1 a2)), IntKind.i64.wrap (a2 + (1 : Int)))))
def f_wire_Reader_Num_1_post (a0 : Int) (a1 : (List Int)) (a2 : Int) (v1 : Value) (g0 g1 g2 : Nat) : (Int × Int) → Value → IM → HL → Prop :=
  fun (p_ : (Int × Int)) (v : Value) (M' : IM) (H' : HL) => match p_ with | (r0, r1) => (.tuple #[]) = v ∧ H' = [[(g0, .cells #[(.int .u64 r0)] 105 (0, 0))], [(g1, .cells #[v1] 23 (0, 0))], [(g2, .cells #[(.int .i64 r1)] 3 (0, 0))]]
theorem f_wire_Reader_Num_1_ok (a0 : Int) (a1 : (List Int)) (a2 : Int) (M : IM) (v1 : Value) (g0 g1 g2 : Nat) (h1 : RS (Kd.int .u8) M v1 a1) (res : (Int × Int)) (h : f_wire_Reader_Num_1 a0 a1 a2 = some res) :
    Tri Tryz.prog 98 #[(pt g0 0), (pt g1 0), (pt g2 0)] M [[(g0, .cells #[(Uv a0)] 105 (0, 0))], [(g1, .cells #[v1] 23 (0, 0))], [(g2, .cells #[(Iv a2)] 3 (0, 0))]] (f_wire_Reader_Num_1_post a0 a1 a2 v1 g0 g1 g2 res) := by
 unfold f_wire_Reader_Num_1 at h
 refine Te Tryz.func98 rfl rfl ?_
 intro F ρ hρ
 refine Cs (WC.draw [0, 1, 0, 0, 12, 28, 60, 127, 255] (.pure 0 (.pure 1 (.pure 2 (.pure 3 (.pure 4 (.pure 5 (.pure 6 (.pure 7 (.alt 8 .done .none))))))))) mixed (by kernel_rfl) (qt (Uv a0) rfl (Lb 0 pl105 (hρ 0) rfl rfl) (qt (Uv (shlI .u64 a0 (8 : Int))) rfl (PO.shl rfl rfl (by decide)) (qt v1 rfl (Lb 1 pl23 (hρ 1) rfl rfl) (qt (Iv a2) rfl (Lb 2 pl3 (hρ 2) rfl rfl) ?_)))))
 obtain ⟨hg21, h⟩ := grd_i h
 obtain ⟨p22, cs23, hat24, hrc25, hhas26⟩ := h1.at hg21.1 hg21.2 (by decide)
 obtain rfl := hrc25
 refine qt (.pointer (some p22)) rfl (PO.indexAddr (n := a1.length) Tryz.underlying23 sz5 rfl rfl hg21.1 hg21.2 hat24) (qt (Yv (rd a1 a2)) rfl (PO.loadM pl5 rfl (IM.has0 hhas26)) (qt (Uv (IntKind.u64.wrap (rd a1 a2))) rfl (PO.conv us5 Tryz.underlying105 rfl) (qt (Uv (orI .u64 (shlI .u64 a0 (8 : Int)) (IntKind.u64.wrap (rd a1 a2)))) rfl (PO.or rfl rfl) (Ta rfl (Es (Uv (orI .u64 (shlI .u64 a0 (8 : Int)) (IntKind.u64.wrap (rd a1 a2)))) [(Uv (orI .u64 (shlI .u64 a0 (8 : Int)) (IntKind.u64.wrap (rd a1 a2))))] rfl sz105 (hρ 0) rfl rfl rfl rfl rfl) rfl ?_ ?_))))
 rintro _ _ _ - ⟨rfl, rfl⟩
 refine ⟨(Sl rfl), ?_⟩
 refine Ti (Tc (Cg (qu (Iv a2) (Lb 2 pl3 (hρ 2) rfl rfl) (qu (Iv (IntKind.i64.wrap (a2 + 1))) (PO.add rfl rfl) (Wb (We (Es (Iv (IntKind.i64.wrap (a2 + 1))) [(Iv (IntKind.i64.wrap (a2 + 1)))] rfl sz3 (hρ 2) rfl rfl rfl rfl rfl) rfl ?_))))))
 rintro _ _ _ - ⟨rfl, rfl⟩
 exact Wz (Qb (Qb (WQ.endsF h [[(g0, .cells #[(Uv (orI .u64 (shlI .u64 a0 (8 : Int)) (IntKind.u64.wrap (rd a1 a2))))] 105 (0, 0))], [(g1, .cells #[v1] 23 (0, 0))], [(g2, .cells #[(Iv (IntKind.i64.wrap (a2 + 1)))] 3 (0, 0))]] rfl (results0 rfl) lr ⟨rfl, rfl⟩)))
 exact Tz


end Go.Proofs.YtkflneabcannnaaGreatDoor.G
