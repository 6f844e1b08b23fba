/- Go functions: what they come to, and that they do. Printed by a program of the session (gen). -/
import Derived.Test.YtkflneabcannnaaGreatDoorCF
import Derived.Test.YtkflneabcannnaaGreatDoorC0
import Derived.Test.YtkflneabcannnaaGreatDoorC1
import Derived.Test.YtkflneabcannnaaGreatDoorKConv
import Derived.Test.YtkflneabcannnaaGreatDoorKShar2
import Derived.Test.YtkflneabcannnaaGreatDoorKTight2
set_option linter.unusedVariables false
set_option linter.unusedSimpArgs false
set_option maxHeartbeats 8000000
set_option maxRecDepth 100000
namespace Go.Proofs.YtkflneabcannnaaGreatDoor.G
open Go Go.KK

noncomputable def f_batch_Check_l0 (a0 : T_api_Batch) (s_ : Int) : Option (Int ⊕ (Unit ⊕ GErr)) :=
  match s_ with
  | x51 =>
    (if (decide (x51 < (a0.Records.length : Int))) = true then (grd (0 ≤ x51 ∧ x51 < a0.Records.length) ((f_record_Check (rd a0.Records x51)).bind fun r62 => (if (!r62.isNil) = true then ((f_fault_Wrap (⟨#[114, 101, 99, 111, 114, 100]⟩ : ByteArray) x51 r62).bind fun r68 => (some (Sum.inr (Sum.inr r68)))) else (some (Sum.inl (IntKind.i64.wrap (x51 + (1 : Int)))))))) else (some (Sum.inr (Sum.inl ()))))
noncomputable def f_batch_Check (a0 : T_api_Batch) : Option GErr :=
  (((if (decide (a0.Term < (1 : Int))) = true then (some true) else (some (decide ((1073741824 : Int) < a0.Term)))) : Option Bool).bind fun x22 => (if x22 = true then ((f_fault_New (⟨#[116, 101, 114, 109]⟩ : ByteArray) a0.Term (2 : Int)).bind fun r26 => (some r26)) else (((if (decide (a0.Base < (0 : Int))) = true then (some true) else (some (decide ((1073741824 : Int) < a0.Base)))) : Option Bool).bind fun x31 => (if x31 = true then ((f_fault_New (⟨#[98, 97, 115, 101]⟩ : ByteArray) a0.Base (2 : Int)).bind fun r35 => (some r35)) else (((if (decide ((a0.Records.length : Int) < (1 : Int))) = true then (some true) else (some (decide ((64 : Int) < (a0.Records.length : Int))))) : Option Bool).bind fun x40 => (if x40 = true then ((f_fault_New (⟨#[114, 101, 99, 111, 114, 100, 115]⟩ : ByteArray) (a0.Records.length : Int) (6 : Int)).bind fun r44 => (some r44)) else ((((iter (f_batch_Check_l0 a0) (0 : Int)).bind (Sum.elim (fun _ => (some (Sum.inl ()))) (fun (x52 : GErr) => (((some x52)).bind fun r => some (Sum.inr r))))) : Option (Unit ⊕ GErr)).bind (Sum.elim (fun _ => (some GErr.nil)) some))))))))
def f_batch_Check_post (a0 : T_api_Batch) (v0_2 : Value) : GErr → Value → IM → HL → Prop :=
  fun (r0 : GErr) (v : Value) (M' : IM) (H' : HL) => (GV r0) = v ∧ H' = []
theorem f_batch_Check_ok (a0 : T_api_Batch) (M : IM) (v0_2 : Value) (h0_2 : RS kd_api_Record M v0_2 a0.Records) (res : GErr) (h : f_batch_Check a0 = some res) :
    Tri Tryz.prog 49 #[(a55_ a0 v0_2)] M [] (f_batch_Check_post a0 v0_2 res) := by
 unfold f_batch_Check at h
 refine Te Tryz.func49 rfl rfl ?_
 intro F ρ hρ
 refine Sr (We (EO.box (cs := (l55 a0 v0_2).toArray) (congrArg Value.cells (asE (a55_ a0 v0_2) (hρ 0)))) rfl ?_)
 rintro _ _ _ - ⟨rfl, g21, rfl, rfl⟩
 refine qa (GV GErr.nil) (Nt (Cs (Bk ?_)))
 obtain ⟨x22, hj23, h⟩ := bnd h
 refine Jf (fun (x22 : Bool) ρ' M' H' => M.le M' ∧ [(g21, .cells (l55 a0 v0_2).toArray 55 (0, 0))] :: F = H' ∧ ρ' 1 = (pt g21 0) ∧ ρ' 6 = (Bv x22)) x22 ?_ ?_
 have h := hj23
 refine Cg (qu (pt g21 0) (Fa fo55_0 rfl rfl) (qu (Iv a0.Term) (Lb 0 pl3 rfl rfl rfl) (qu (Bv (decide (a0.Term < 1))) (PO.lss rfl rfl) (qm (Bv (decide (a0.Term < 1))) ?_))))
 rcases Bt (decide (a0.Term < 1)) with hb24 | hb24
 have h := ite_t hb24 h
 iterate 3 refine Of 10 rfl rfl hb24 rfl ?_
 refine qu (Bv true) (Pt rfl hb24 rfl) (qa (Bv true) (Wz ?_))
 obtain rfl := oi h
 exact Tj ⟨lr, rfl, rfl, rfl⟩
 have h := ite_f hb24 h
 refine qo 10 hb24 (pt g21 0) (Fa fo55_0 rfl rfl) (qo 10 hb24 (Iv a0.Term) (Lb 0 pl3 rfl rfl rfl) (qo 10 hb24 (Bv (decide ((1073741824 : Int) < a0.Term))) (PO.gtr rfl rfl) (qu (Bv (decide ((1073741824 : Int) < a0.Term))) (Pf rfl hb24 rfl) (qa (Bv (decide ((1073741824 : Int) < a0.Term))) (Wz ?_)))))
 obtain rfl := oi h
 exact Tj ⟨lr, rfl, rfl, rfl⟩
 rintro ρ23 M23 H23 ⟨hle23, rfl, hs23_1, hs23_6⟩
 refine Cd (b := x22) hs23_6 (fun hb25 => ?_) (fun hb25 => ?_)
 have h := ite_t hb25 h
 refine Sr (qu (pt g21 0) (Fa fo55_0 hs23_1 rfl) (qu (Iv a0.Term) (Lb 0 pl3 rfl rfl rfl) ?_))
 obtain ⟨r26, hr27, h⟩ := bnd h
 refine We (Ca co30 (f_fault_New_ok ⟨#[116, 101, 114, 109]⟩ a0.Term (2 : Int) _ r26 hr27) (args3 rfl rfl rfl)) rfl ?_
 rintro _ M28 _ hle29 ⟨_, ⟨rfl, rfl⟩, rfl⟩
 exact WL.a0 (qa (GV r26) (Nt (Cr (Br (Tr (Dr (Rf h [] rfl (Rs rfl rfl) (hle23.trans hle29) ⟨rfl, rfl⟩)))))))
 have h := ite_f hb25 h
 obtain ⟨x31, hj32, h⟩ := bnd h
 refine Jf (fun (x31 : Bool) ρ' M' H' => M23.le M' ∧ [(g21, .cells (l55 a0 v0_2).toArray 55 (0, 0))] :: F = H' ∧ ρ' 1 = (pt g21 0) ∧ ρ' 18 = (Bv x31)) x31 ?_ ?_
 have h := hj32
 refine Cg (qu (pt g21 1) (Fa fo55_1 hs23_1 rfl) (qu (Iv a0.Base) (Lb 0 pl3 rfl rfl rfl) (qu (Bv (decide (a0.Base < 0))) (PO.lss rfl rfl) (qm (Bv (decide (a0.Base < 0))) ?_))))
 rcases Bt (decide (a0.Base < 0)) with hb33 | hb33
 have h := ite_t hb33 h
 iterate 3 refine Of 22 rfl rfl hb33 rfl ?_
 refine qu (Bv true) (Pt rfl hb33 rfl) (qa (Bv true) (Wz ?_))
 obtain rfl := oi h
 exact Tj ⟨lr, rfl, hs23_1, rfl⟩
 have h := ite_f hb33 h
 refine qo 22 hb33 (pt g21 1) (Fa fo55_1 hs23_1 rfl) (qo 22 hb33 (Iv a0.Base) (Lb 0 pl3 rfl rfl rfl) (qo 22 hb33 (Bv (decide ((1073741824 : Int) < a0.Base))) (PO.gtr rfl rfl) (qu (Bv (decide ((1073741824 : Int) < a0.Base))) (Pf rfl hb33 rfl) (qa (Bv (decide ((1073741824 : Int) < a0.Base))) (Wz ?_)))))
 obtain rfl := oi h
 exact Tj ⟨lr, rfl, hs23_1, rfl⟩
 rintro ρ32 M32 H32 ⟨hle32, rfl, hs32_1, hs32_18⟩
 have L32 := hle23.trans hle32
 refine Cd (b := x31) hs32_18 (fun hb34 => ?_) (fun hb34 => ?_)
 have h := ite_t hb34 h
 refine Sr (qu (pt g21 1) (Fa fo55_1 hs32_1 rfl) (qu (Iv a0.Base) (Lb 0 pl3 rfl rfl rfl) ?_))
 obtain ⟨r35, hr36, h⟩ := bnd h
 refine We (Ca co30 (f_fault_New_ok ⟨#[98, 97, 115, 101]⟩ a0.Base (2 : Int) _ r35 hr36) (args3 rfl rfl rfl)) rfl ?_
 rintro _ M37 _ hle38 ⟨_, ⟨rfl, rfl⟩, rfl⟩
 exact WL.a0 (qa (GV r35) (Nt (Cr (Br (Tr (Dr (Rf h [] rfl (Rs rfl rfl) (L32.trans hle38) ⟨rfl, rfl⟩)))))))
 have h := ite_f hb34 h
 obtain ⟨x40, hj41, h⟩ := bnd h
 refine Jf (fun (x40 : Bool) ρ' M' H' => M32.le M' ∧ [(g21, .cells (l55 a0 v0_2).toArray 55 (0, 0))] :: F = H' ∧ ρ' 1 = (pt g21 0) ∧ ρ' 30 = (Bv x40)) x40 ?_ ?_
 have h := hj41
 refine Cg (qu (pt g21 2) (Fa fo55_2 hs32_1 rfl) (qu v0_2 (Lb 0 pl53 rfl rfl rfl) ?_))
 have h0_2 := h0_2.mono L32
 refine qu (Iv (a0.Records.length : Int)) (PO.lenS Tryz.underlying53 rfl h0_2.len) (qu (Bv (decide ((a0.Records.length : Int) < (1 : Int)))) (PO.lss rfl rfl) (qm (Bv (decide ((a0.Records.length : Int) < (1 : Int)))) ?_))
 rcases Bt (decide ((a0.Records.length : Int) < (1 : Int))) with hb42 | hb42
 have h := ite_t hb42 h
 iterate 4 refine Of 35 rfl rfl hb42 rfl ?_
 refine qu (Bv true) (Pt rfl hb42 rfl) (qa (Bv true) (Wz ?_))
 obtain rfl := oi h
 exact Tj ⟨lr, rfl, hs32_1, rfl⟩
 have h := ite_f hb42 h
 refine qo 35 hb42 (pt g21 2) (Fa fo55_2 hs32_1 rfl) (qo 35 hb42 v0_2 (Lb 0 pl53 rfl rfl rfl) (qo 35 hb42 (Iv (a0.Records.length : Int)) (PO.lenS Tryz.underlying53 rfl h0_2.len) (qo 35 hb42 (Bv (decide ((64 : Int) < (a0.Records.length : Int)))) (PO.gtr rfl rfl) (qu (Bv (decide ((64 : Int) < (a0.Records.length : Int)))) (Pf rfl hb42 rfl) (qa (Bv (decide ((64 : Int) < (a0.Records.length : Int)))) (Wz ?_))))))
 obtain rfl := oi h
 exact Tj ⟨lr, rfl, hs32_1, rfl⟩
 rintro ρ41 M41 H41 ⟨hle41, rfl, hs41_1, hs41_30⟩
 have L41 := L32.trans hle41
 refine Cd (b := x40) hs41_30 (fun hb43 => ?_) (fun hb43 => ?_)
 have h := ite_t hb43 h
 refine Sr (qu (pt g21 2) (Fa fo55_2 hs41_1 rfl) (qu v0_2 (Lb 0 pl53 rfl rfl rfl) ?_))
 have h0_2 := h0_2.mono L41
 refine qu (Iv (a0.Records.length : Int)) (PO.lenS Tryz.underlying53 rfl h0_2.len) ?_
 obtain ⟨r44, hr45, h⟩ := bnd h
 refine We (Ca co30 (f_fault_New_ok ⟨#[114, 101, 99, 111, 114, 100, 115]⟩ (a0.Records.length : Int) (6 : Int) _ r44 hr45) (args3 rfl rfl rfl)) rfl ?_
 rintro _ M46 _ hle47 ⟨_, ⟨rfl, rfl⟩, rfl⟩
 exact WL.a0 (qa (GV r44) (Nt (Cr (Br (Tr (Dr (Rf h [] rfl (Rs rfl rfl) (L41.trans hle47) ⟨rfl, rfl⟩)))))))
 have h := ite_f hb43 h
 refine Ck (Bn (Tc ?_))
 obtain ⟨j49, hj49, h⟩ := bnd h
 refine WC.joinE (fun (_ : Unit) ρ' M' H' => M41.le M' ∧ [(g21, .cells (l55 a0 v0_2).toArray 55 (0, 0))] :: F = H') j49 ?_ ?_
 have h349 := h
 have h := hj49
 refine Sr (qu (pt g21 2) (Fa fo55_2 hs41_1 rfl) (qu v0_2 (Lb 0 pl53 rfl rfl rfl) ?_))
 have h0_2 := h0_2.mono L41
 refine qu (Iv (a0.Records.length : Int)) (PO.lenS Tryz.underlying53 rfl h0_2.len) (qm (Iv 0) (Nt (Bk ?_)))
 obtain ⟨e50, he50, hK50⟩ := bnd h
 clear h
 refine WC.loop he50 (fun (x51 : Int) ρ' M' H' => M41.le M' ∧ [(g21, .cells (l55 a0 v0_2).toArray 55 (0, 0))] :: F = H' ∧ ρ' 46 = v0_2 ∧ ρ' 47 = (Iv (a0.Records.length : Int)) ∧ ρ' 48 = (Iv x51)) ?_ ?_
 exact ⟨lr, rfl, rfl, rfl, rfl⟩
 rintro x51 o50 ρ50 M50 H50 h ⟨hle50, rfl, hs50_46, hs50_47, hs50_48⟩
 unfold f_batch_Check_l0 at h
 refine Sr (qu (Bv (decide (x51 < (a0.Records.length : Int)))) (PO.lss hs50_48 hs50_47) (Nt (Cs (Cd (b := decide (x51 < (a0.Records.length : Int))) rfl (fun hb53 => ?_) (fun hb53 => ?_)))))
 have h := ite_t hb53 h
 refine Ck (Tc (Cs (Bk (Sr (qM (Iv x51) hs50_48 ?_)))))
 obtain ⟨hg54, h⟩ := grd_i h
 have h0_2 := h0_2.mono hle50
 obtain ⟨p55, cs56, hat57, hrc58, hhas59⟩ := h0_2.at hg54.1 hg54.2 (by decide)
 obtain ⟨vw60_14, vw60_15, vw60_16, vw60_17, rfl, hw60_14, hw60_15, hw60_16, hw60_17⟩ := kd_api_Record_open hrc58
 refine qu (.pointer (some p55)) (PO.indexAddr (n := a0.Records.length) Tryz.underlying53 sz58 hs50_46 hs50_48 hg54.1 hg54.2 hat57) (qu (a58_ (rd a0.Records x51) vw60_14 vw60_15 vw60_16 vw60_17) (PO.loadMA (cs := (l58 (rd a0.Records x51) vw60_14 vw60_15 vw60_16 vw60_17)) ag58 sz58 rfl hhas59) (We (Al ze58 rfl) rfl ?_))
 rintro _ _ _ - ⟨rfl, g61, rfl, rfl⟩
 refine qa (Iv x51) (We (Sg (v := (a58_ (rd a0.Records x51) vw60_14 vw60_15 vw60_16 vw60_17)) (vl := (l58 (rd a0.Records x51) vw60_14 vw60_15 vw60_16 vw60_17)) (arr' := (l58 (rd a0.Records x51) vw60_14 vw60_15 vw60_16 vw60_17)) rfl sz58 rfl rfl (onesOf (Oc rfl (Oc rfl (Oc rfl (Oc rfl (Oc rfl (Oc rfl (Oc rfl (Oc rfl (Oc rfl (Oc rfl (Oc rfl (Oc rfl (Oc rfl (Oc rfl (Oc (RS.one hw60_14) (Oc (RS.one hw60_15) (Oc (RS.one hw60_16) (Oc (RS.one hw60_17) Oz))))))))))))))))))) rfl rfl (by kernel_rfl)) rfl ?_)
 rintro _ _ _ - ⟨rfl, rfl⟩
 refine Ns (qu (a58_ (rd a0.Records x51) vw60_14 vw60_15 vw60_16 vw60_17) (La (cs := (l58 (rd a0.Records x51) vw60_14 vw60_15 vw60_16 vw60_17)) 0 ag58 sz58 rfl rfl rfl) ?_)
 obtain ⟨r62, hr63, h⟩ := bnd h
 refine We (Ca co77 (f_record_Check_ok (rd a0.Records x51) _ _ _ _ _ hw60_14 hw60_15 hw60_16 hw60_17 r62 hr63) (args1 rfl)) rfl ?_
 rintro _ M64 _ hle65 ⟨_, ⟨rfl, rfl⟩, rfl⟩
 refine WL.a0 (qa (GV r62) (Ns (qm (GV r62) (qu (Bv (!r62.isNil)) (PO.errNotNil Tryz.underlying31 rfl) (Nt (Cd (b := !r62.isNil) rfl (fun hb67 => ?_) (fun hb67 => ?_)))))))
 have h := ite_t hb67 h
 refine Sr (qm (Iv x51) (qm (GV r62) ?_))
 obtain ⟨r68, hr69, h⟩ := bnd h
 refine We (Ca co29 (f_fault_Wrap_ok ⟨#[114, 101, 99, 111, 114, 100]⟩ x51 r62 _ r68 hr69) (args3 rfl rfl rfl)) rfl ?_
 rintro _ M70 _ hle71 ⟨_, ⟨rfl, rfl⟩, rfl⟩
 refine WL.a0 (qa (GV r68) (Nt (Cr (Br (Tr (WQ.leaveR (Sum.inr r68) (oi h).symm (fun heq50 => ?_)))))))
 subst heq50
 have h := (elimR hK50)
 refine Br (Tr ?_)
 have h := KK.early h h349
 exact Dr (Dr (Rf h [] rfl (Rs rfl rfl) (((L41.trans hle50).trans hle65).trans hle71) ⟨rfl, rfl⟩))
 have h := ite_f hb67 h
 exact Ck (Bn (Tc (Cg (qu (Iv (IntKind.i64.wrap (x51 + 1))) (PO.add hs50_48 rfl) (qm (Iv (IntKind.i64.wrap (x51 + 1))) (Wz (Dr (WQ.again (IntKind.i64.wrap (x51 + 1)) (oi h).symm ⟨(hle50.trans hle65), rfl, hs50_46, hs50_47, rfl⟩))))))))
 have h := ite_f hb53 h
 refine WC.exit (WQ.thenE (WQ.leaveE (Sum.inl ()) (oi h).symm (fun heq50 => ?_)))
 subst heq50
 have h := elimL hK50
 exact WQ.blockH (WQ.thenFE h ⟨hle50, rfl⟩)
 rintro _ ρ49 M49 H49 rfl ⟨hle49, rfl⟩
 have h := (Sum.elim_inl _ _ _).symm.trans h
 exact Sr (qa (GV GErr.nil) (Nt (Cr (Dr (Rf h [] rfl (Rs rfl rfl) (L41.trans hle49) ⟨rfl, rfl⟩)))))

noncomputable def f_rpc_Check_l0 (a0 : T_api_Rpc) (s_ : Int) : Option (Int ⊕ (Unit ⊕ GErr)) :=
  match s_ with
  | x212 =>
    (if (decide (x212 < (a0.Batches.length : Int))) = true then (grd (0 ≤ x212 ∧ x212 < a0.Batches.length) ((f_batch_Check (rd a0.Batches x212)).bind fun r223 => (if (!r223.isNil) = true then ((f_fault_Wrap (⟨#[98, 97, 116, 99, 104]⟩ : ByteArray) x212 r223).bind fun r229 => (some (Sum.inr (Sum.inr r229)))) else (some (Sum.inl (IntKind.i64.wrap (x212 + (1 : Int)))))))) else (some (Sum.inr (Sum.inl ()))))
noncomputable def f_rpc_Check (a0 : T_api_Rpc) : Option GErr :=
  (((if (decide (a0.Kind < (1 : Int))) = true then (some true) else (some (decide ((8 : Int) < a0.Kind)))) : Option Bool).bind fun x22 => (if x22 = true then ((f_fault_New (⟨#[107, 105, 110, 100]⟩ : ByteArray) a0.Kind (5 : Int)).bind fun r26 => (some r26)) else (((if (decide (a0.From < (1 : Int))) = true then (some true) else (if (decide ((1073741824 : Int) < a0.From)) = true then (some true) else (if (decide (a0.To < (1 : Int))) = true then (some true) else (if (decide ((1073741824 : Int) < a0.To)) = true then (some true) else (some (decide (a0.From = a0.To))))))) : Option Bool).bind fun x31 => (if x31 = true then ((f_fault_New (⟨#[102, 114, 111, 109]⟩ : ByteArray) a0.From (2 : Int)).bind fun r38 => (some r38)) else (((if (decide (a0.Term < (0 : Int))) = true then (some true) else (some (decide ((1073741824 : Int) < a0.Term)))) : Option Bool).bind fun x43 => (if x43 = true then ((f_fault_New (⟨#[116, 101, 114, 109]⟩ : ByteArray) a0.Term (2 : Int)).bind fun r47 => (some r47)) else ((((f_rpc_Check_1 (1 : Int) a0).bind fun r54 => (if (!r54) = true then (if a0.Pre = true then (some true) else ((f_rpc_Check_1 (2 : Int) a0).bind fun r61 => (if (!r61) = true then (some a0.Ok) else (some false)))) else ((f_rpc_Check_1 (2 : Int) a0).bind fun r67 => (if (!r67) = true then (some a0.Ok) else (some false))))) : Option Bool).bind fun x52 => (if x52 = true then ((f_fault_New (⟨#[102, 108, 97, 103]⟩ : ByteArray) (1 : Int) (1 : Int)).bind fun r74 => (some r74)) else ((f_rpc_Check_1 (4 : Int) a0).bind fun r79 => ((f_rpc_number a0.Leader r79 (1073741824 : Int)).bind fun r84 => (if (!r84) = true then ((f_fault_New (⟨#[108, 101, 97, 100, 101, 114]⟩ : ByteArray) a0.Leader (2 : Int)).bind fun r90 => (some r90)) else ((((f_rpc_Check_1 (8 : Int) a0).bind fun r97 => ((f_rpc_number a0.At r97 (1073741824 : Int)).bind fun r102 => (if (!r102) = true then (some true) else ((f_rpc_Check_1 (8 : Int) a0).bind fun r108 => ((f_rpc_number a0.AtTerm r108 (1073741824 : Int)).bind fun r113 => (some (!r113))))))) : Option Bool).bind fun x95 => (if x95 = true then ((f_fault_New (⟨#[112, 108, 97, 99, 101]⟩ : ByteArray) a0.At (2 : Int)).bind fun r119 => (some r119)) else ((f_rpc_Check_1 (16 : Int) a0).bind fun r124 => ((f_rpc_number a0.High r124 (1073741824 : Int)).bind fun r129 => (if (!r129) = true then ((f_fault_New (⟨#[104, 105, 103, 104]⟩ : ByteArray) a0.High (2 : Int)).bind fun r135 => (some r135)) else ((f_rpc_Check_1 (32 : Int) a0).bind fun r140 => ((f_rpc_number a0.Code r140 (21 : Int)).bind fun r145 => (if (!r145) = true then ((f_fault_New (⟨#[99, 111, 100, 101]⟩ : ByteArray) a0.Code (2 : Int)).bind fun r151 => (some r151)) else ((((f_rpc_Check_1 (128 : Int) a0).bind fun r158 => ((f_rpc_number a0.Size r158 (1073741824 : Int)).bind fun r163 => (if (!r163) = true then (some true) else ((f_rpc_Check_1 (256 : Int) a0).bind fun r169 => ((f_rpc_number a0.Pos r169 (1073741824 : Int)).bind fun r174 => (some (!r174))))))) : Option Bool).bind fun x156 => (if x156 = true then ((f_fault_New (⟨#[115, 105, 122, 101]⟩ : ByteArray) a0.Size (2 : Int)).bind fun r180 => (some r180)) else (((if (decide ((512 : Int) < (a0.Data.length : Int))) = true then (some true) else (if (decide ((0 : Int) < (a0.Data.length : Int))) = true then (some (decide (a0.Kind ≠ (8 : Int)))) else (some false))) : Option Bool).bind fun x185 => (if x185 = true then ((f_fault_New (⟨#[100, 97, 116, 97]⟩ : ByteArray) (a0.Data.length : Int) (6 : Int)).bind fun r190 => (some r190)) else (((if (decide ((8 : Int) < (a0.Batches.length : Int))) = true then (some true) else ((f_rpc_Check_1 (64 : Int) a0).bind fun r198 => (if (!r198) = true then (some (decide ((0 : Int) < (a0.Batches.length : Int)))) else (some false)))) : Option Bool).bind fun x195 => (if x195 = true then ((f_fault_New (⟨#[98, 97, 116, 99, 104, 101, 115]⟩ : ByteArray) (a0.Batches.length : Int) (6 : Int)).bind fun r205 => (some r205)) else ((((iter (f_rpc_Check_l0 a0) (0 : Int)).bind (Sum.elim (fun _ => (some (Sum.inl ()))) (fun (x213 : GErr) => (((some x213)).bind fun r => some (Sum.inr r))))) : Option (Unit ⊕ GErr)).bind (Sum.elim (fun _ => (some GErr.nil)) some)))))))))))))))))))))))))))
def f_rpc_Check_post (a0 : T_api_Rpc) (v0_11 v0_14 : Value) : GErr → Value → IM → HL → Prop :=
  fun (r0 : GErr) (v : Value) (M' : IM) (H' : HL) => (GV r0) = v ∧ H' = []
theorem f_rpc_Check_ok (a0 : T_api_Rpc) (M : IM) (v0_11 v0_14 : Value) (h0_11 : RS kd_api_Batch M v0_11 a0.Batches) (h0_14 : RS (Kd.int .u8) M v0_14 a0.Data) (res : GErr) (h : f_rpc_Check a0 = some res) :
    Tri Tryz.prog 16 #[(a25_ a0 v0_11 v0_14)] M [] (f_rpc_Check_post a0 v0_11 v0_14 res) := by
 unfold f_rpc_Check at h
 refine Te Tryz.func16 rfl rfl ?_
 intro F ρ hρ
 refine Sr (We (EO.box (cs := (l25 a0 v0_11 v0_14).toArray) (congrArg Value.cells (asE (a25_ a0 v0_11 v0_14) (hρ 0)))) rfl ?_)
 rintro _ _ _ - ⟨rfl, g21, rfl, rfl⟩
 refine qa (GV GErr.nil) (Nt (Cs ?_))
 obtain ⟨x22, hj23, h⟩ := bnd h
 refine Jf (fun (x22 : Bool) ρ' M' H' => M.le M' ∧ [(g21, .cells (l25 a0 v0_11 v0_14).toArray 25 (0, 0))] :: F = H' ∧ ρ' 1 = (pt g21 0) ∧ ρ' 14 = (Bv x22)) x22 ?_ ?_
 have h := hj23
 refine Cg (qu (pt g21 0) (Fa fo25_0 rfl rfl) (qu (Iv a0.Kind) (Lb 0 pl3 rfl rfl rfl) (qu (Bv (decide (a0.Kind < 1))) (PO.lss rfl rfl) (qm (Bv (decide (a0.Kind < 1))) ?_))))
 rcases Bt (decide (a0.Kind < 1)) with hb24 | hb24
 have h := ite_t hb24 h
 iterate 3 refine Of 10 rfl rfl hb24 rfl ?_
 refine qu (Bv true) (Pt rfl hb24 rfl) (Wz ?_)
 obtain rfl := oi h
 exact Tj ⟨lr, rfl, rfl, rfl⟩
 have h := ite_f hb24 h
 refine qo 10 hb24 (pt g21 0) (Fa fo25_0 rfl rfl) (qo 10 hb24 (Iv a0.Kind) (Lb 0 pl3 rfl rfl rfl) (qo 10 hb24 (Bv (decide ((8 : Int) < a0.Kind))) (PO.gtr rfl rfl) (qu (Bv (decide ((8 : Int) < a0.Kind))) (Pf rfl hb24 rfl) (Wz ?_))))
 obtain rfl := oi h
 exact Tj ⟨lr, rfl, rfl, rfl⟩
 rintro ρ23 M23 H23 ⟨hle23, rfl, hs23_1, hs23_14⟩
 refine Cd (b := x22) hs23_14 (fun hb25 => ?_) (fun hb25 => ?_)
 have h := ite_t hb25 h
 refine Sr (qu (pt g21 0) (Fa fo25_0 hs23_1 rfl) (qu (Iv a0.Kind) (Lb 0 pl3 rfl rfl rfl) ?_))
 obtain ⟨r26, hr27, h⟩ := bnd h
 refine We (Ca co30 (f_fault_New_ok ⟨#[107, 105, 110, 100]⟩ a0.Kind (5 : Int) _ r26 hr27) (args3 rfl rfl rfl)) rfl ?_
 rintro _ M28 _ hle29 ⟨_, ⟨rfl, rfl⟩, rfl⟩
 exact WL.a0 (qa (GV r26) (Nt (Cr (Tr (Dr (Rf h [] rfl (Rs rfl rfl) (hle23.trans hle29) ⟨rfl, rfl⟩))))))
 have h := ite_f hb25 h
 refine Ck (Tc (Sr (qu (.func (.func 47) #[] #[(pt g21 0)]) (PO.makeFunc2 (args0) (args1 (asE (Value.pointer (some ⟨g21, 0, none⟩)) hs23_1))) (qa (.func (.func 47) #[] #[(pt g21 0)]) (Nt (Cs (Bk ?_)))))))
 obtain ⟨x31, hj32, h⟩ := bnd h
 refine Jf (fun (x31 : Bool) ρ' M' H' => M23.le M' ∧ [(g21, .cells (l25 a0 v0_11 v0_14).toArray 25 (0, 0))] :: F = H' ∧ ρ' 1 = (pt g21 0) ∧ ρ' 3 = (.func (.func 47) #[] #[(pt g21 0)]) ∧ ρ' 19 = (Bv x31)) x31 ?_ ?_
 have h := hj32
 refine Cg (qu (pt g21 1) (Fa fo25_1 hs23_1 rfl) (qu (Iv a0.From) (Lb 0 pl3 rfl rfl rfl) (qu (Bv (decide (a0.From < 1))) (PO.lss rfl rfl) (qm (Bv (decide (a0.From < 1))) ?_))))
 rcases Bt (decide (a0.From < 1)) with hb33 | hb33
 have h := ite_t hb33 h
 iterate 3 refine Of 23 rfl rfl hb33 rfl ?_
 refine qu (Bv true) (Pt rfl hb33 rfl) (qm (Bv true) ?_)
 iterate 3 refine Of 28 rfl rfl rfl rfl ?_
 refine qu (Bv true) (Pt rfl rfl rfl) (qm (Bv true) ?_)
 iterate 3 refine Of 33 rfl rfl rfl rfl ?_
 refine qu (Bv true) (Pt rfl rfl rfl) (qm (Bv true) ?_)
 iterate 5 refine Of 38 rfl rfl rfl rfl ?_
 refine qu (Bv true) (Pt rfl rfl rfl) (qa (Bv true) (Wz ?_))
 obtain rfl := oi h
 exact Tj ⟨lr, rfl, hs23_1, rfl, rfl⟩
 have h := ite_f hb33 h
 refine qo 23 hb33 (pt g21 1) (Fa fo25_1 hs23_1 rfl) (qo 23 hb33 (Iv a0.From) (Lb 0 pl3 rfl rfl rfl) (qo 23 hb33 (Bv (decide ((1073741824 : Int) < a0.From))) (PO.gtr rfl rfl) (qu (Bv (decide ((1073741824 : Int) < a0.From))) (Pf rfl hb33 rfl) (qm (Bv (decide ((1073741824 : Int) < a0.From))) ?_))))
 rcases Bt (decide ((1073741824 : Int) < a0.From)) with hb34 | hb34
 have h := ite_t hb34 h
 iterate 3 refine Of 28 rfl rfl hb34 rfl ?_
 refine qu (Bv true) (Pt rfl hb34 rfl) (qm (Bv true) ?_)
 iterate 3 refine Of 33 rfl rfl rfl rfl ?_
 refine qu (Bv true) (Pt rfl rfl rfl) (qm (Bv true) ?_)
 iterate 5 refine Of 38 rfl rfl rfl rfl ?_
 refine qu (Bv true) (Pt rfl rfl rfl) (qa (Bv true) (Wz ?_))
 obtain rfl := oi h
 exact Tj ⟨lr, rfl, hs23_1, rfl, rfl⟩
 have h := ite_f hb34 h
 refine qo 28 hb34 (pt g21 2) (Fa fo25_2 hs23_1 rfl) (qo 28 hb34 (Iv a0.To) (Lb 0 pl3 rfl rfl rfl) (qo 28 hb34 (Bv (decide (a0.To < 1))) (PO.lss rfl rfl) (qu (Bv (decide (a0.To < 1))) (Pf rfl hb34 rfl) (qm (Bv (decide (a0.To < 1))) ?_))))
 rcases Bt (decide (a0.To < 1)) with hb35 | hb35
 have h := ite_t hb35 h
 iterate 3 refine Of 33 rfl rfl hb35 rfl ?_
 refine qu (Bv true) (Pt rfl hb35 rfl) (qm (Bv true) ?_)
 iterate 5 refine Of 38 rfl rfl rfl rfl ?_
 refine qu (Bv true) (Pt rfl rfl rfl) (qa (Bv true) (Wz ?_))
 obtain rfl := oi h
 exact Tj ⟨lr, rfl, hs23_1, rfl, rfl⟩
 have h := ite_f hb35 h
 refine qo 33 hb35 (pt g21 2) (Fa fo25_2 hs23_1 rfl) (qo 33 hb35 (Iv a0.To) (Lb 0 pl3 rfl rfl rfl) (qo 33 hb35 (Bv (decide ((1073741824 : Int) < a0.To))) (PO.gtr rfl rfl) (qu (Bv (decide ((1073741824 : Int) < a0.To))) (Pf rfl hb35 rfl) (qm (Bv (decide ((1073741824 : Int) < a0.To))) ?_))))
 rcases Bt (decide ((1073741824 : Int) < a0.To)) with hb36 | hb36
 have h := ite_t hb36 h
 iterate 5 refine Of 38 rfl rfl hb36 rfl ?_
 refine qu (Bv true) (Pt rfl hb36 rfl) (qa (Bv true) (Wz ?_))
 obtain rfl := oi h
 exact Tj ⟨lr, rfl, hs23_1, rfl, rfl⟩
 have h := ite_f hb36 h
 refine qo 38 hb36 (pt g21 1) (Fa fo25_1 hs23_1 rfl) (qo 38 hb36 (Iv a0.From) (Lb 0 pl3 rfl rfl rfl) (qo 38 hb36 (pt g21 2) (Fa fo25_2 hs23_1 rfl) (qo 38 hb36 (Iv a0.To) (Lb 0 pl3 rfl rfl rfl) (qo 38 hb36 (Bv (decide (a0.From = a0.To))) (PO.eql rfl rfl) (qu (Bv (decide (a0.From = a0.To))) (Pf rfl hb36 rfl) (qa (Bv (decide (a0.From = a0.To))) (Wz ?_)))))))
 obtain rfl := oi h
 exact Tj ⟨lr, rfl, hs23_1, rfl, rfl⟩
 rintro ρ32 M32 H32 ⟨hle32, rfl, hs32_1, hs32_3, hs32_19⟩
 have L32 := hle23.trans hle32
 refine Cd (b := x31) hs32_19 (fun hb37 => ?_) (fun hb37 => ?_)
 have h := ite_t hb37 h
 refine Sr (qu (pt g21 1) (Fa fo25_1 hs32_1 rfl) (qu (Iv a0.From) (Lb 0 pl3 rfl rfl rfl) ?_))
 obtain ⟨r38, hr39, h⟩ := bnd h
 refine We (Ca co30 (f_fault_New_ok ⟨#[102, 114, 111, 109]⟩ a0.From (2 : Int) _ r38 hr39) (args3 rfl rfl rfl)) rfl ?_
 rintro _ M40 _ hle41 ⟨_, ⟨rfl, rfl⟩, rfl⟩
 exact WL.a0 (qa (GV r38) (Nt (Cr (Br (Tr (Dr (Rf h [] rfl (Rs rfl rfl) (L32.trans hle41) ⟨rfl, rfl⟩)))))))
 have h := ite_f hb37 h
 obtain ⟨x43, hj44, h⟩ := bnd h
 refine Jf (fun (x43 : Bool) ρ' M' H' => M32.le M' ∧ [(g21, .cells (l25 a0 v0_11 v0_14).toArray 25 (0, 0))] :: F = H' ∧ ρ' 1 = (pt g21 0) ∧ ρ' 3 = (.func (.func 47) #[] #[(pt g21 0)]) ∧ ρ' 48 = (Bv x43)) x43 ?_ ?_
 have h := hj44
 refine Cg (qu (pt g21 3) (Fa fo25_3 hs32_1 rfl) (qu (Iv a0.Term) (Lb 0 pl3 rfl rfl rfl) (qu (Bv (decide (a0.Term < 0))) (PO.lss rfl rfl) (qm (Bv (decide (a0.Term < 0))) ?_))))
 rcases Bt (decide (a0.Term < 0)) with hb45 | hb45
 have h := ite_t hb45 h
 iterate 3 refine Of 52 rfl rfl hb45 rfl ?_
 refine qu (Bv true) (Pt rfl hb45 rfl) (qa (Bv true) (Wz ?_))
 obtain rfl := oi h
 exact Tj ⟨lr, rfl, hs32_1, hs32_3, rfl⟩
 have h := ite_f hb45 h
 refine qo 52 hb45 (pt g21 3) (Fa fo25_3 hs32_1 rfl) (qo 52 hb45 (Iv a0.Term) (Lb 0 pl3 rfl rfl rfl) (qo 52 hb45 (Bv (decide ((1073741824 : Int) < a0.Term))) (PO.gtr rfl rfl) (qu (Bv (decide ((1073741824 : Int) < a0.Term))) (Pf rfl hb45 rfl) (qa (Bv (decide ((1073741824 : Int) < a0.Term))) (Wz ?_)))))
 obtain rfl := oi h
 exact Tj ⟨lr, rfl, hs32_1, hs32_3, rfl⟩
 rintro ρ44 M44 H44 ⟨hle44, rfl, hs44_1, hs44_3, hs44_48⟩
 have L44 := L32.trans hle44
 refine Cd (b := x43) hs44_48 (fun hb46 => ?_) (fun hb46 => ?_)
 have h := ite_t hb46 h
 refine Sr (qu (pt g21 3) (Fa fo25_3 hs44_1 rfl) (qu (Iv a0.Term) (Lb 0 pl3 rfl rfl rfl) ?_))
 obtain ⟨r47, hr48, h⟩ := bnd h
 refine We (Ca co30 (f_fault_New_ok ⟨#[116, 101, 114, 109]⟩ a0.Term (2 : Int) _ r47 hr48) (args3 rfl rfl rfl)) rfl ?_
 rintro _ M49 _ hle50 ⟨_, ⟨rfl, rfl⟩, rfl⟩
 exact WL.a0 (qa (GV r47) (Nt (Cr (Br (Tr (Dr (Rf h [] rfl (Rs rfl rfl) (L44.trans hle50) ⟨rfl, rfl⟩)))))))
 have h := ite_f hb46 h
 obtain ⟨x52, hj53, h⟩ := bnd h
 refine Jf (fun (x52 : Bool) ρ' M' H' => M44.le M' ∧ [(g21, .cells (l25 a0 v0_11 v0_14).toArray 25 (0, 0))] :: F = H' ∧ ρ' 1 = (pt g21 0) ∧ ρ' 3 = (.func (.func 47) #[] #[(pt g21 0)]) ∧ ρ' 60 = (Bv x52)) x52 ?_ ?_
 have h := hj53
 refine Cg (qM (.func (.func 47) #[] #[(pt g21 0)]) hs44_3 ?_)
 obtain ⟨r54, hr55, h⟩ := bnd h
 have h0_11 := h0_11.mono L44
 have h0_14 := h0_14.mono L44
 refine We (EO.callV1 (first := #[]) (cap := #[(pt g21 0)]) co47 rfl (f_rpc_Check_1_ok (1 : Int) a0 _ _ _ _ h0_11 h0_14 r54 hr55) (argsV1 rfl rfl)) rfl ?_
 rintro _ M56 _ hle57 ⟨_, ⟨rfl, rfl⟩, rfl⟩
 refine WL.a1 (qu (Bv (!r54)) (PO.not rfl) (qm (Bv (!r54)) ?_))
 rcases Bt (!r54) with hb59 | hb59
 have h := ite_t hb59 h
 refine qo 64 hb59 (pt g21 4) (Fa fo25_4 hs44_1 rfl) (qo 64 hb59 (Bv a0.Pre) (Lb 0 pl4 rfl rfl rfl) (qu (Bv a0.Pre) (Pt rfl hb59 rfl) (qm (Bv a0.Pre) ?_)))
 rcases Bt (a0.Pre) with hb60 | hb60
 have h := ite_t hb60 h
 iterate 4 refine Of 68 rfl rfl hb60 rfl ?_
 refine WL.offU 72 rfl rfl rfl (WL.offU 72 rfl rfl rfl (Of 68 rfl rfl hb60 rfl (qu (Bv true) (Pt rfl hb60 rfl) (qa (Bv true) (Wz ?_)))))
 obtain rfl := oi h
 exact Tj ⟨hle57, rfl, hs44_1, hs44_3, rfl⟩
 have h := ite_f hb60 h
 refine On 68 rfl rfl hb60 (qM (.func (.func 47) #[] #[(pt g21 0)]) hs44_3 (On 68 rfl rfl hb60 ?_))
 obtain ⟨r61, hr62, h⟩ := bnd h
 have h0_11 := h0_11.mono hle57
 have h0_14 := h0_14.mono hle57
 refine We (EO.callV1 (first := #[]) (cap := #[(pt g21 0)]) co47 rfl (f_rpc_Check_1_ok (2 : Int) a0 _ _ _ _ h0_11 h0_14 r61 hr62) (argsV1 rfl rfl)) rfl ?_
 rintro _ M63 _ hle64 ⟨_, ⟨rfl, rfl⟩, rfl⟩
 refine WL.a1 (qo 68 hb60 (Bv (!r61)) (PO.not rfl) (On 68 rfl rfl hb60 (qm (Bv (!r61)) ?_)))
 rcases Bt (!r61) with hb66 | hb66
 have h := ite_t hb66 h
 refine qo 72 hb66 (pt g21 5) (Fa fo25_5 hs44_1 rfl) (qo 72 hb66 (Bv a0.Ok) (Lb 0 pl4 rfl rfl rfl) (qo 68 hb60 (Bv a0.Ok) (Pt rfl hb66 rfl) (qu (Bv a0.Ok) (Pf rfl hb60 rfl) (qa (Bv a0.Ok) (Wz ?_)))))
 obtain rfl := oi h
 exact Tj ⟨(hle57.trans hle64), rfl, hs44_1, hs44_3, rfl⟩
 have h := ite_f hb66 h
 iterate 2 refine Of 72 rfl rfl hb66 rfl ?_
 refine qo 68 hb60 (Bv false) (Pf rfl hb66 rfl) (qu (Bv false) (Pf rfl hb60 rfl) (qa (Bv false) (Wz ?_)))
 obtain rfl := oi h
 exact Tj ⟨(hle57.trans hle64), rfl, hs44_1, hs44_3, rfl⟩
 have h := ite_f hb59 h
 iterate 2 refine Of 64 rfl rfl hb59 rfl ?_
 refine qu (Bv false) (Pf rfl hb59 rfl) (qm (Bv false) (On 68 rfl rfl rfl (qM (.func (.func 47) #[] #[(pt g21 0)]) hs44_3 (On 68 rfl rfl rfl ?_))))
 obtain ⟨r67, hr68, h⟩ := bnd h
 have h0_11 := h0_11.mono hle57
 have h0_14 := h0_14.mono hle57
 refine We (EO.callV1 (first := #[]) (cap := #[(pt g21 0)]) co47 rfl (f_rpc_Check_1_ok (2 : Int) a0 _ _ _ _ h0_11 h0_14 r67 hr68) (argsV1 rfl rfl)) rfl ?_
 rintro _ M69 _ hle70 ⟨_, ⟨rfl, rfl⟩, rfl⟩
 refine WL.a1 (qo 68 rfl (Bv (!r67)) (PO.not rfl) (On 68 rfl rfl rfl (qm (Bv (!r67)) ?_)))
 rcases Bt (!r67) with hb72 | hb72
 have h := ite_t hb72 h
 refine qo 72 hb72 (pt g21 5) (Fa fo25_5 hs44_1 rfl) (qo 72 hb72 (Bv a0.Ok) (Lb 0 pl4 rfl rfl rfl) (qo 68 rfl (Bv a0.Ok) (Pt rfl hb72 rfl) (qu (Bv a0.Ok) (Pf rfl rfl rfl) (qa (Bv a0.Ok) (Wz ?_)))))
 obtain rfl := oi h
 exact Tj ⟨(hle57.trans hle70), rfl, hs44_1, hs44_3, rfl⟩
 have h := ite_f hb72 h
 iterate 2 refine Of 72 rfl rfl hb72 rfl ?_
 refine qo 68 rfl (Bv false) (Pf rfl hb72 rfl) (qu (Bv false) (Pf rfl rfl rfl) (qa (Bv false) (Wz ?_)))
 obtain rfl := oi h
 exact Tj ⟨(hle57.trans hle70), rfl, hs44_1, hs44_3, rfl⟩
 rintro ρ53 M53 H53 ⟨hle53, rfl, hs53_1, hs53_3, hs53_60⟩
 have L53 := L44.trans hle53
 refine Cd (b := x52) hs53_60 (fun hb73 => ?_) (fun hb73 => ?_)
 have h := ite_t hb73 h
 refine Sr ?_
 obtain ⟨r74, hr75, h⟩ := bnd h
 refine We (Ca co30 (f_fault_New_ok ⟨#[102, 108, 97, 103]⟩ (1 : Int) (1 : Int) _ r74 hr75) (args3 rfl rfl rfl)) rfl ?_
 rintro _ M76 _ hle77 ⟨_, ⟨rfl, rfl⟩, rfl⟩
 exact WL.a0 (qa (GV r74) (Nt (Cr (Br (Tr (Dr (Rf h [] rfl (Rs rfl rfl) (L53.trans hle77) ⟨rfl, rfl⟩)))))))
 have h := ite_f hb73 h
 refine Cs (WC.draw [0, 1, 0, 4, 15, 31, 63] (.pure 0 (.pure 1 (.pure 2 (.alt 3 (.alt 4 (.pure 5 (.pure 6 .done)) .none) .none)))) mixed (by kernel_rfl) (qt (pt g21 6) rfl (Fa fo25_6 hs53_1 rfl) (qt (Iv a0.Leader) rfl (Lb 0 pl3 rfl rfl rfl) (qt (.func (.func 47) #[] #[(pt g21 0)]) rfl (Mv hs53_3) ?_))))
 obtain ⟨r79, hr80, h⟩ := bnd h
 have h0_11 := h0_11.mono L53
 have h0_14 := h0_14.mono L53
 refine Ta rfl (EO.callV1 (first := #[]) (cap := #[(pt g21 0)]) co47 rfl (f_rpc_Check_1_ok (4 : Int) a0 _ _ _ _ h0_11 h0_14 r79 hr80) (argsV1 rfl rfl)) rfl ?_ ?_
 rintro _ M81 _ hle82 ⟨_, ⟨rfl, rfl⟩, rfl⟩
 have L82 := L53.trans hle82
 refine ⟨(Sk 1 rfl (Ss rfl (Lb 0 pl3 rfl rfl rfl) rfl (Ss rfl (Fa fo25_6 hs53_1 rfl) rfl trivial))), ?_⟩
 refine WT.a1 ?_
 obtain ⟨r84, hr85, h⟩ := bnd h
 refine Ta rfl (Ca co48 (f_rpc_number_ok a0.Leader r79 (1073741824 : Int) _ r84 hr85) (args3 rfl rfl rfl)) rfl ?_ ?_
 rintro _ M86 _ hle87 ⟨_, ⟨rfl, rfl⟩, rfl⟩
 have L87 := L82.trans hle87
 refine ⟨(Sl rfl), ?_⟩
 refine WT.a0 (qt (Bv (!r84)) rfl (PO.not rfl) (qt (Bv (!r84)) rfl (Ag rfl) (Ti (Tc (Cd (b := !r84) rfl (fun hb89 => ?_) (fun hb89 => ?_))))))
 have h := ite_t hb89 h
 refine Sr (qu (pt g21 6) (Fa fo25_6 hs53_1 rfl) (qu (Iv a0.Leader) (Lb 0 pl3 rfl rfl rfl) ?_))
 obtain ⟨r90, hr91, h⟩ := bnd h
 refine We (Ca co30 (f_fault_New_ok ⟨#[108, 101, 97, 100, 101, 114]⟩ a0.Leader (2 : Int) _ r90 hr91) (args3 rfl rfl rfl)) rfl ?_
 rintro _ M92 _ hle93 ⟨_, ⟨rfl, rfl⟩, rfl⟩
 exact WL.a0 (qa (GV r90) (Nt (Cr (Br (Tr (Dr (Rf h [] rfl (Rs rfl rfl) (L87.trans hle93) ⟨rfl, rfl⟩)))))))
 have h := ite_f hb89 h
 obtain ⟨x95, hj96, h⟩ := bnd h
 refine Jf (fun (x95 : Bool) ρ' M' H' => M86.le M' ∧ [(g21, .cells (l25 a0 v0_11 v0_14).toArray 25 (0, 0))] :: F = H' ∧ ρ' 1 = (pt g21 0) ∧ ρ' 3 = (.func (.func 47) #[] #[(pt g21 0)]) ∧ ρ' 88 = (Bv x95)) x95 ?_ ?_
 have h := hj96
 refine WC.draw [0, 1, 0, 4, 15, 31, 63, 127, 255, 127, 639, 2047, 4095, 8191, 16383] (.pure 0 (.pure 1 (.pure 2 (.alt 3 (.alt 4 (.pure 5 (.pure 6 (.pure 7 (.pure 8 (.pure 9 (.alt 10 (.alt 11 (.pure 12 (.pure 13 (.pure 14 .done))) .none) .none)))))) .none) .none)))) mixed (by kernel_rfl) (qt (pt g21 7) rfl (Fa fo25_7 hs53_1 rfl) (qt (Iv a0.At) rfl (Lb 0 pl3 rfl rfl rfl) (qt (.func (.func 47) #[] #[(pt g21 0)]) rfl (Mv hs53_3) ?_)))
 obtain ⟨r97, hr98, h⟩ := bnd h
 have h0_11 := h0_11.mono (hle82.trans hle87)
 have h0_14 := h0_14.mono (hle82.trans hle87)
 refine Ta rfl (EO.callV1 (first := #[]) (cap := #[(pt g21 0)]) co47 rfl (f_rpc_Check_1_ok (8 : Int) a0 _ _ _ _ h0_11 h0_14 r97 hr98) (argsV1 rfl rfl)) rfl ?_ ?_
 rintro _ M99 _ hle100 ⟨_, ⟨rfl, rfl⟩, rfl⟩
 refine ⟨(Sk 1 rfl (Ss rfl (Lb 0 pl3 rfl rfl rfl) rfl (Ss rfl (Fa fo25_7 hs53_1 rfl) rfl trivial))), ?_⟩
 refine WT.a1 ?_
 obtain ⟨r102, hr103, h⟩ := bnd h
 refine Ta rfl (Ca co48 (f_rpc_number_ok a0.At r97 (1073741824 : Int) _ r102 hr103) (args3 rfl rfl rfl)) rfl ?_ ?_
 rintro _ M104 _ hle105 ⟨_, ⟨rfl, rfl⟩, rfl⟩
 refine ⟨(Sl rfl), ?_⟩
 refine WT.a0 (qt (Bv (!r102)) rfl (PO.not rfl) (qt (Bv (!r102)) rfl (Mv rfl) ?_))
 rcases Bt (!r102) with hb107 | hb107
 have h := ite_t hb107 h
 refine Tf 95 rfl rfl rfl hb107 rfl (Tf 95 rfl rfl rfl hb107 rfl (Tf 95 rfl rfl rfl hb107 rfl (Tg 95 rfl rfl rfl hb107 rfl ⟨(Sk 1 rfl (St (Sf 95 rfl rfl rfl hb107 rfl) (St (Sf 95 rfl rfl rfl hb107 rfl) (Sl rfl)))), ?_⟩ ?_)))
 refine Tg 95 rfl rfl rfl hb107 rfl ⟨(Sl rfl), ?_⟩ ?_
 refine Tf 95 rfl rfl rfl hb107 rfl (qt (Bv true) rfl (Pt rfl hb107 rfl) (qt (Bv true) rfl (Ag rfl) (Ti ?_)))
 obtain rfl := oi h
 exact Tj ⟨(hle100.trans hle105), rfl, hs53_1, hs53_3, rfl⟩
 exact Tz
 exact Tz
 have h := ite_f hb107 h
 refine Tn (pt g21 8) 95 rfl rfl rfl hb107 (Fa fo25_8 hs53_1 rfl) rfl (Tn (Iv a0.AtTerm) 95 rfl rfl rfl hb107 (Lb 0 pl3 rfl rfl rfl) rfl (Tn (.func (.func 47) #[] #[(pt g21 0)]) 95 rfl rfl rfl hb107 (Mv hs53_3) rfl ?_))
 obtain ⟨r108, hr109, h⟩ := bnd h
 have h0_11 := h0_11.mono (hle100.trans hle105)
 have h0_14 := h0_14.mono (hle100.trans hle105)
 refine WT.altOn 95 rfl rfl rfl hb107 (EO.callV1 (first := #[]) (cap := #[(pt g21 0)]) co47 rfl (f_rpc_Check_1_ok (8 : Int) a0 _ _ _ _ h0_11 h0_14 r108 hr109) (argsV1 rfl rfl)) rfl ?_ ?_
 rintro _ M110 _ hle111 ⟨_, ⟨rfl, rfl⟩, rfl⟩
 refine ⟨(Sk 1 rfl (St (StabA.on 95 rfl rfl rfl hb107 (Lb 0 pl3 rfl rfl rfl) rfl) (St (StabA.on 95 rfl rfl rfl hb107 (Fa fo25_8 hs53_1 rfl) rfl) (Sl rfl)))), ?_⟩
 refine WT.a1 ?_
 obtain ⟨r113, hr114, h⟩ := bnd h
 refine WT.altOn 95 rfl rfl rfl hb107 (Ca co48 (f_rpc_number_ok a0.AtTerm r108 (1073741824 : Int) _ r113 hr114) (args3 rfl rfl rfl)) rfl ?_ ?_
 rintro _ M115 _ hle116 ⟨_, ⟨rfl, rfl⟩, rfl⟩
 refine ⟨(Sl rfl), ?_⟩
 refine WT.a0 (Tn (Bv (!r113)) 95 rfl rfl rfl hb107 (PO.not rfl) rfl (qt (Bv (!r113)) rfl (Pf rfl hb107 rfl) (qt (Bv (!r113)) rfl (Ag rfl) (Ti ?_))))
 obtain rfl := oi h
 exact Tj ⟨(((hle100.trans hle105).trans hle111).trans hle116), rfl, hs53_1, hs53_3, rfl⟩
 exact Tz
 exact Tz
 exact Tz
 exact Tz
 rintro ρ96 M96 H96 ⟨hle96, rfl, hs96_1, hs96_3, hs96_88⟩
 have L96 := L87.trans hle96
 refine Cd (b := x95) hs96_88 (fun hb118 => ?_) (fun hb118 => ?_)
 have h := ite_t hb118 h
 refine Sr (qu (pt g21 7) (Fa fo25_7 hs96_1 rfl) (qu (Iv a0.At) (Lb 0 pl3 rfl rfl rfl) ?_))
 obtain ⟨r119, hr120, h⟩ := bnd h
 refine We (Ca co30 (f_fault_New_ok ⟨#[112, 108, 97, 99, 101]⟩ a0.At (2 : Int) _ r119 hr120) (args3 rfl rfl rfl)) rfl ?_
 rintro _ M121 _ hle122 ⟨_, ⟨rfl, rfl⟩, rfl⟩
 exact WL.a0 (qa (GV r119) (Nt (Cr (Br (Tr (Dr (Rf h [] rfl (Rs rfl rfl) (L96.trans hle122) ⟨rfl, rfl⟩)))))))
 have h := ite_f hb118 h
 refine Cs (WC.draw [0, 1, 0, 4, 15, 31, 63] (.pure 0 (.pure 1 (.pure 2 (.alt 3 (.alt 4 (.pure 5 (.pure 6 .done)) .none) .none)))) mixed (by kernel_rfl) (qt (pt g21 9) rfl (Fa fo25_9 hs96_1 rfl) (qt (Iv a0.High) rfl (Lb 0 pl3 rfl rfl rfl) (qt (.func (.func 47) #[] #[(pt g21 0)]) rfl (Mv hs96_3) ?_))))
 obtain ⟨r124, hr125, h⟩ := bnd h
 have h0_11 := h0_11.mono ((hle82.trans hle87).trans hle96)
 have h0_14 := h0_14.mono ((hle82.trans hle87).trans hle96)
 refine Ta rfl (EO.callV1 (first := #[]) (cap := #[(pt g21 0)]) co47 rfl (f_rpc_Check_1_ok (16 : Int) a0 _ _ _ _ h0_11 h0_14 r124 hr125) (argsV1 rfl rfl)) rfl ?_ ?_
 rintro _ M126 _ hle127 ⟨_, ⟨rfl, rfl⟩, rfl⟩
 have L127 := L96.trans hle127
 refine ⟨(Sk 1 rfl (Ss rfl (Lb 0 pl3 rfl rfl rfl) rfl (Ss rfl (Fa fo25_9 hs96_1 rfl) rfl trivial))), ?_⟩
 refine WT.a1 ?_
 obtain ⟨r129, hr130, h⟩ := bnd h
 refine Ta rfl (Ca co48 (f_rpc_number_ok a0.High r124 (1073741824 : Int) _ r129 hr130) (args3 rfl rfl rfl)) rfl ?_ ?_
 rintro _ M131 _ hle132 ⟨_, ⟨rfl, rfl⟩, rfl⟩
 have L132 := L127.trans hle132
 refine ⟨(Sl rfl), ?_⟩
 refine WT.a0 (qt (Bv (!r129)) rfl (PO.not rfl) (qt (Bv (!r129)) rfl (Ag rfl) (Ti (Tc (Cd (b := !r129) rfl (fun hb134 => ?_) (fun hb134 => ?_))))))
 have h := ite_t hb134 h
 refine Sr (qu (pt g21 9) (Fa fo25_9 hs96_1 rfl) (qu (Iv a0.High) (Lb 0 pl3 rfl rfl rfl) ?_))
 obtain ⟨r135, hr136, h⟩ := bnd h
 refine We (Ca co30 (f_fault_New_ok ⟨#[104, 105, 103, 104]⟩ a0.High (2 : Int) _ r135 hr136) (args3 rfl rfl rfl)) rfl ?_
 rintro _ M137 _ hle138 ⟨_, ⟨rfl, rfl⟩, rfl⟩
 exact WL.a0 (qa (GV r135) (Nt (Cr (Br (Tr (Dr (Rf h [] rfl (Rs rfl rfl) (L132.trans hle138) ⟨rfl, rfl⟩)))))))
 have h := ite_f hb134 h
 refine Cs (WC.draw [0, 1, 0, 4, 15, 31, 63] (.pure 0 (.pure 1 (.pure 2 (.alt 3 (.alt 4 (.pure 5 (.pure 6 .done)) .none) .none)))) mixed (by kernel_rfl) (qt (pt g21 10) rfl (Fa fo25_10 hs96_1 rfl) (qt (Iv a0.Code) rfl (Lb 0 pl3 rfl rfl rfl) (qt (.func (.func 47) #[] #[(pt g21 0)]) rfl (Mv hs96_3) ?_))))
 obtain ⟨r140, hr141, h⟩ := bnd h
 have h0_11 := h0_11.mono (hle127.trans hle132)
 have h0_14 := h0_14.mono (hle127.trans hle132)
 refine Ta rfl (EO.callV1 (first := #[]) (cap := #[(pt g21 0)]) co47 rfl (f_rpc_Check_1_ok (32 : Int) a0 _ _ _ _ h0_11 h0_14 r140 hr141) (argsV1 rfl rfl)) rfl ?_ ?_
 rintro _ M142 _ hle143 ⟨_, ⟨rfl, rfl⟩, rfl⟩
 have L143 := L132.trans hle143
 refine ⟨(Sk 1 rfl (Ss rfl (Lb 0 pl3 rfl rfl rfl) rfl (Ss rfl (Fa fo25_10 hs96_1 rfl) rfl trivial))), ?_⟩
 refine WT.a1 ?_
 obtain ⟨r145, hr146, h⟩ := bnd h
 refine Ta rfl (Ca co48 (f_rpc_number_ok a0.Code r140 (21 : Int) _ r145 hr146) (args3 rfl rfl rfl)) rfl ?_ ?_
 rintro _ M147 _ hle148 ⟨_, ⟨rfl, rfl⟩, rfl⟩
 have L148 := hle143.trans hle148
 have L148_1 := L143.trans hle148
 refine ⟨(Sl rfl), ?_⟩
 refine WT.a0 (qt (Bv (!r145)) rfl (PO.not rfl) (qt (Bv (!r145)) rfl (Ag rfl) (Ti (Tc (Cd (b := !r145) rfl (fun hb150 => ?_) (fun hb150 => ?_))))))
 have h := ite_t hb150 h
 refine Sr (qu (pt g21 10) (Fa fo25_10 hs96_1 rfl) (qu (Iv a0.Code) (Lb 0 pl3 rfl rfl rfl) ?_))
 obtain ⟨r151, hr152, h⟩ := bnd h
 refine We (Ca co30 (f_fault_New_ok ⟨#[99, 111, 100, 101]⟩ a0.Code (2 : Int) _ r151 hr152) (args3 rfl rfl rfl)) rfl ?_
 rintro _ M153 _ hle154 ⟨_, ⟨rfl, rfl⟩, rfl⟩
 exact WL.a0 (qa (GV r151) (Nt (Cr (Br (Tr (Dr (Rf h [] rfl (Rs rfl rfl) (L148_1.trans hle154) ⟨rfl, rfl⟩)))))))
 have h := ite_f hb150 h
 obtain ⟨x156, hj157, h⟩ := bnd h
 refine Jf (fun (x156 : Bool) ρ' M' H' => M147.le M' ∧ [(g21, .cells (l25 a0 v0_11 v0_14).toArray 25 (0, 0))] :: F = H' ∧ ρ' 1 = (pt g21 0) ∧ ρ' 3 = (.func (.func 47) #[] #[(pt g21 0)]) ∧ ρ' 126 = (Bv x156)) x156 ?_ ?_
 have h := hj157
 refine WC.draw [0, 1, 0, 4, 15, 31, 63, 127, 255, 127, 639, 2047, 4095, 8191, 16383] (.pure 0 (.pure 1 (.pure 2 (.alt 3 (.alt 4 (.pure 5 (.pure 6 (.pure 7 (.pure 8 (.pure 9 (.alt 10 (.alt 11 (.pure 12 (.pure 13 (.pure 14 .done))) .none) .none)))))) .none) .none)))) mixed (by kernel_rfl) (qt (pt g21 12) rfl (Fa fo25_12 hs96_1 rfl) (qt (Iv a0.Size) rfl (Lb 0 pl3 rfl rfl rfl) (qt (.func (.func 47) #[] #[(pt g21 0)]) rfl (Mv hs96_3) ?_)))
 obtain ⟨r158, hr159, h⟩ := bnd h
 have h0_11 := h0_11.mono L148
 have h0_14 := h0_14.mono L148
 refine Ta rfl (EO.callV1 (first := #[]) (cap := #[(pt g21 0)]) co47 rfl (f_rpc_Check_1_ok (128 : Int) a0 _ _ _ _ h0_11 h0_14 r158 hr159) (argsV1 rfl rfl)) rfl ?_ ?_
 rintro _ M160 _ hle161 ⟨_, ⟨rfl, rfl⟩, rfl⟩
 refine ⟨(Sk 1 rfl (Ss rfl (Lb 0 pl3 rfl rfl rfl) rfl (Ss rfl (Fa fo25_12 hs96_1 rfl) rfl trivial))), ?_⟩
 refine WT.a1 ?_
 obtain ⟨r163, hr164, h⟩ := bnd h
 refine Ta rfl (Ca co48 (f_rpc_number_ok a0.Size r158 (1073741824 : Int) _ r163 hr164) (args3 rfl rfl rfl)) rfl ?_ ?_
 rintro _ M165 _ hle166 ⟨_, ⟨rfl, rfl⟩, rfl⟩
 refine ⟨(Sl rfl), ?_⟩
 refine WT.a0 (qt (Bv (!r163)) rfl (PO.not rfl) (qt (Bv (!r163)) rfl (Mv rfl) ?_))
 rcases Bt (!r163) with hb168 | hb168
 have h := ite_t hb168 h
 refine Tf 133 rfl rfl rfl hb168 rfl (Tf 133 rfl rfl rfl hb168 rfl (Tf 133 rfl rfl rfl hb168 rfl (Tg 133 rfl rfl rfl hb168 rfl ⟨(Sk 1 rfl (St (Sf 133 rfl rfl rfl hb168 rfl) (St (Sf 133 rfl rfl rfl hb168 rfl) (Sl rfl)))), ?_⟩ ?_)))
 refine Tg 133 rfl rfl rfl hb168 rfl ⟨(Sl rfl), ?_⟩ ?_
 refine Tf 133 rfl rfl rfl hb168 rfl (qt (Bv true) rfl (Pt rfl hb168 rfl) (qt (Bv true) rfl (Ag rfl) (Ti ?_)))
 obtain rfl := oi h
 exact Tj ⟨(hle161.trans hle166), rfl, hs96_1, hs96_3, rfl⟩
 exact Tz
 exact Tz
 have h := ite_f hb168 h
 refine Tn (pt g21 13) 133 rfl rfl rfl hb168 (Fa fo25_13 hs96_1 rfl) rfl (Tn (Iv a0.Pos) 133 rfl rfl rfl hb168 (Lb 0 pl3 rfl rfl rfl) rfl (Tn (.func (.func 47) #[] #[(pt g21 0)]) 133 rfl rfl rfl hb168 (Mv hs96_3) rfl ?_))
 obtain ⟨r169, hr170, h⟩ := bnd h
 have h0_11 := h0_11.mono (hle161.trans hle166)
 have h0_14 := h0_14.mono (hle161.trans hle166)
 refine WT.altOn 133 rfl rfl rfl hb168 (EO.callV1 (first := #[]) (cap := #[(pt g21 0)]) co47 rfl (f_rpc_Check_1_ok (256 : Int) a0 _ _ _ _ h0_11 h0_14 r169 hr170) (argsV1 rfl rfl)) rfl ?_ ?_
 rintro _ M171 _ hle172 ⟨_, ⟨rfl, rfl⟩, rfl⟩
 refine ⟨(Sk 1 rfl (St (StabA.on 133 rfl rfl rfl hb168 (Lb 0 pl3 rfl rfl rfl) rfl) (St (StabA.on 133 rfl rfl rfl hb168 (Fa fo25_13 hs96_1 rfl) rfl) (Sl rfl)))), ?_⟩
 refine WT.a1 ?_
 obtain ⟨r174, hr175, h⟩ := bnd h
 refine WT.altOn 133 rfl rfl rfl hb168 (Ca co48 (f_rpc_number_ok a0.Pos r169 (1073741824 : Int) _ r174 hr175) (args3 rfl rfl rfl)) rfl ?_ ?_
 rintro _ M176 _ hle177 ⟨_, ⟨rfl, rfl⟩, rfl⟩
 refine ⟨(Sl rfl), ?_⟩
 refine WT.a0 (Tn (Bv (!r174)) 133 rfl rfl rfl hb168 (PO.not rfl) rfl (qt (Bv (!r174)) rfl (Pf rfl hb168 rfl) (qt (Bv (!r174)) rfl (Ag rfl) (Ti ?_))))
 obtain rfl := oi h
 exact Tj ⟨(((hle161.trans hle166).trans hle172).trans hle177), rfl, hs96_1, hs96_3, rfl⟩
 exact Tz
 exact Tz
 exact Tz
 exact Tz
 rintro ρ157 M157 H157 ⟨hle157, rfl, hs157_1, hs157_3, hs157_126⟩
 have L157 := L148.trans hle157
 have L157_1 := L148_1.trans hle157
 refine Cd (b := x156) hs157_126 (fun hb179 => ?_) (fun hb179 => ?_)
 have h := ite_t hb179 h
 refine Sr (qu (pt g21 12) (Fa fo25_12 hs157_1 rfl) (qu (Iv a0.Size) (Lb 0 pl3 rfl rfl rfl) ?_))
 obtain ⟨r180, hr181, h⟩ := bnd h
 refine We (Ca co30 (f_fault_New_ok ⟨#[115, 105, 122, 101]⟩ a0.Size (2 : Int) _ r180 hr181) (args3 rfl rfl rfl)) rfl ?_
 rintro _ M182 _ hle183 ⟨_, ⟨rfl, rfl⟩, rfl⟩
 exact WL.a0 (qa (GV r180) (Nt (Cr (Br (Tr (Dr (Rf h [] rfl (Rs rfl rfl) (L157_1.trans hle183) ⟨rfl, rfl⟩)))))))
 have h := ite_f hb179 h
 obtain ⟨x185, hj186, h⟩ := bnd h
 refine Jf (fun (x185 : Bool) ρ' M' H' => M157.le M' ∧ [(g21, .cells (l25 a0 v0_11 v0_14).toArray 25 (0, 0))] :: F = H' ∧ ρ' 1 = (pt g21 0) ∧ ρ' 3 = (.func (.func 47) #[] #[(pt g21 0)]) ∧ ρ' 144 = (Bv x185)) x185 ?_ ?_
 have h := hj186
 refine Cg (qu (pt g21 14) (Fa fo25_14 hs157_1 rfl) (qu v0_14 (Lb 0 pl23 rfl rfl rfl) ?_))
 have h0_14 := h0_14.mono L157
 refine qu (Iv (a0.Data.length : Int)) (PO.lenS Tryz.underlying23 rfl h0_14.len) (qu (Bv (decide ((512 : Int) < (a0.Data.length : Int)))) (PO.gtr rfl rfl) (qm (Bv (decide ((512 : Int) < (a0.Data.length : Int)))) ?_))
 rcases Bt (decide ((512 : Int) < (a0.Data.length : Int))) with hb187 | hb187
 have h := ite_t hb187 h
 iterate 5 refine Of 149 rfl rfl hb187 rfl ?_
 refine WL.offU 154 rfl rfl rfl (WL.offU 154 rfl rfl rfl (WL.offU 154 rfl rfl rfl (Of 149 rfl rfl hb187 rfl (qu (Bv true) (Pt rfl hb187 rfl) (qa (Bv true) (Wz ?_))))))
 obtain rfl := oi h
 exact Tj ⟨lr, rfl, hs157_1, hs157_3, rfl⟩
 have h := ite_f hb187 h
 refine qo 149 hb187 (pt g21 14) (Fa fo25_14 hs157_1 rfl) (qo 149 hb187 v0_14 (Lb 0 pl23 rfl rfl rfl) (qo 149 hb187 (Iv (a0.Data.length : Int)) (PO.lenS Tryz.underlying23 rfl h0_14.len) (qo 149 hb187 (Bv (decide ((0 : Int) < (a0.Data.length : Int)))) (PO.gtr rfl rfl) (On 149 rfl rfl hb187 (qm (Bv (decide ((0 : Int) < (a0.Data.length : Int)))) ?_)))))
 rcases Bt (decide ((0 : Int) < (a0.Data.length : Int))) with hb188 | hb188
 have h := ite_t hb188 h
 refine qo 154 hb188 (pt g21 0) (Fa fo25_0 hs157_1 rfl) (qo 154 hb188 (Iv a0.Kind) (Lb 0 pl3 rfl rfl rfl) (qo 154 hb188 (Bv (decide (a0.Kind ≠ 8))) (PO.neq rfl rfl) (qo 149 hb187 (Bv (decide (a0.Kind ≠ 8))) (Pt rfl hb188 rfl) (qu (Bv (decide (a0.Kind ≠ 8))) (Pf rfl hb187 rfl) (qa (Bv (decide (a0.Kind ≠ 8))) (Wz ?_))))))
 obtain rfl := oi h
 exact Tj ⟨lr, rfl, hs157_1, hs157_3, rfl⟩
 have h := ite_f hb188 h
 iterate 3 refine Of 154 rfl rfl hb188 rfl ?_
 refine qo 149 hb187 (Bv false) (Pf rfl hb188 rfl) (qu (Bv false) (Pf rfl hb187 rfl) (qa (Bv false) (Wz ?_)))
 obtain rfl := oi h
 exact Tj ⟨lr, rfl, hs157_1, hs157_3, rfl⟩
 rintro ρ186 M186 H186 ⟨hle186, rfl, hs186_1, hs186_3, hs186_144⟩
 have L186 := L157.trans hle186
 have L186_1 := L157_1.trans hle186
 refine Cd (b := x185) hs186_144 (fun hb189 => ?_) (fun hb189 => ?_)
 have h := ite_t hb189 h
 refine Sr (qu (pt g21 14) (Fa fo25_14 hs186_1 rfl) (qu v0_14 (Lb 0 pl23 rfl rfl rfl) ?_))
 have h0_14 := h0_14.mono L186
 refine qu (Iv (a0.Data.length : Int)) (PO.lenS Tryz.underlying23 rfl h0_14.len) ?_
 obtain ⟨r190, hr191, h⟩ := bnd h
 refine We (Ca co30 (f_fault_New_ok ⟨#[100, 97, 116, 97]⟩ (a0.Data.length : Int) (6 : Int) _ r190 hr191) (args3 rfl rfl rfl)) rfl ?_
 rintro _ M192 _ hle193 ⟨_, ⟨rfl, rfl⟩, rfl⟩
 exact WL.a0 (qa (GV r190) (Nt (Cr (Br (Tr (Dr (Rf h [] rfl (Rs rfl rfl) (L186_1.trans hle193) ⟨rfl, rfl⟩)))))))
 have h := ite_f hb189 h
 obtain ⟨x195, hj196, h⟩ := bnd h
 refine Jf (fun (x195 : Bool) ρ' M' H' => M186.le M' ∧ [(g21, .cells (l25 a0 v0_11 v0_14).toArray 25 (0, 0))] :: F = H' ∧ ρ' 1 = (pt g21 0) ∧ ρ' 164 = (Bv x195)) x195 ?_ ?_
 have h := hj196
 refine Cg (qu (pt g21 11) (Fa fo25_11 hs186_1 rfl) (qu v0_11 (Lb 0 pl22 rfl rfl rfl) ?_))
 have h0_11 := h0_11.mono L186
 refine qu (Iv (a0.Batches.length : Int)) (PO.lenS Tryz.underlying22 rfl h0_11.len) (qu (Bv (decide ((8 : Int) < (a0.Batches.length : Int)))) (PO.gtr rfl rfl) (qm (Bv (decide ((8 : Int) < (a0.Batches.length : Int)))) ?_))
 rcases Bt (decide ((8 : Int) < (a0.Batches.length : Int))) with hb197 | hb197
 have h := ite_t hb197 h
 iterate 4 refine Of 169 rfl rfl hb197 rfl ?_
 refine WL.offU 173 rfl rfl rfl (WL.offU 173 rfl rfl rfl (WL.offU 173 rfl rfl rfl (WL.offU 173 rfl rfl rfl (Of 169 rfl rfl hb197 rfl (qu (Bv true) (Pt rfl hb197 rfl) (qa (Bv true) (Wz ?_)))))))
 obtain rfl := oi h
 exact Tj ⟨lr, rfl, hs186_1, rfl⟩
 have h := ite_f hb197 h
 refine On 169 rfl rfl hb197 (qM (.func (.func 47) #[] #[(pt g21 0)]) hs186_3 (On 169 rfl rfl hb197 ?_))
 obtain ⟨r198, hr199, h⟩ := bnd h
 have h0_14 := h0_14.mono L186
 refine We (EO.callV1 (first := #[]) (cap := #[(pt g21 0)]) co47 rfl (f_rpc_Check_1_ok (64 : Int) a0 _ _ _ _ h0_11 h0_14 r198 hr199) (argsV1 rfl rfl)) rfl ?_
 rintro _ M200 _ hle201 ⟨_, ⟨rfl, rfl⟩, rfl⟩
 refine WL.a1 (qo 169 hb197 (Bv (!r198)) (PO.not rfl) (On 169 rfl rfl hb197 (qm (Bv (!r198)) ?_)))
 rcases Bt (!r198) with hb203 | hb203
 have h := ite_t hb203 h
 refine qo 173 hb203 (pt g21 11) (Fa fo25_11 hs186_1 rfl) (qo 173 hb203 v0_11 (Lb 0 pl22 rfl rfl rfl) (On 173 rfl rfl hb203 ?_))
 have h0_11 := h0_11.mono hle201
 refine qu (Iv (a0.Batches.length : Int)) (PO.lenS Tryz.underlying22 rfl h0_11.len) (qo 173 hb203 (Bv (decide ((0 : Int) < (a0.Batches.length : Int)))) (PO.gtr rfl rfl) (qo 169 hb197 (Bv (decide ((0 : Int) < (a0.Batches.length : Int)))) (Pt rfl hb203 rfl) (qu (Bv (decide ((0 : Int) < (a0.Batches.length : Int)))) (Pf rfl hb197 rfl) (qa (Bv (decide ((0 : Int) < (a0.Batches.length : Int)))) (Wz ?_)))))
 obtain rfl := oi h
 exact Tj ⟨hle201, rfl, hs186_1, rfl⟩
 have h := ite_f hb203 h
 iterate 4 refine Of 173 rfl rfl hb203 rfl ?_
 refine qo 169 hb197 (Bv false) (Pf rfl hb203 rfl) (qu (Bv false) (Pf rfl hb197 rfl) (qa (Bv false) (Wz ?_)))
 obtain rfl := oi h
 exact Tj ⟨hle201, rfl, hs186_1, rfl⟩
 rintro ρ196 M196 H196 ⟨hle196, rfl, hs196_1, hs196_164⟩
 have L196 := L186_1.trans hle196
 refine Cd (b := x195) hs196_164 (fun hb204 => ?_) (fun hb204 => ?_)
 have h := ite_t hb204 h
 refine Sr (qu (pt g21 11) (Fa fo25_11 hs196_1 rfl) (qu v0_11 (Lb 0 pl22 rfl rfl rfl) ?_))
 have h0_11 := h0_11.mono (L186.trans hle196)
 refine qu (Iv (a0.Batches.length : Int)) (PO.lenS Tryz.underlying22 rfl h0_11.len) ?_
 obtain ⟨r205, hr206, h⟩ := bnd h
 refine We (Ca co30 (f_fault_New_ok ⟨#[98, 97, 116, 99, 104, 101, 115]⟩ (a0.Batches.length : Int) (6 : Int) _ r205 hr206) (args3 rfl rfl rfl)) rfl ?_
 rintro _ M207 _ hle208 ⟨_, ⟨rfl, rfl⟩, rfl⟩
 exact WL.a0 (qa (GV r205) (Nt (Cr (Br (Tr (Dr (Rf h [] rfl (Rs rfl rfl) (L196.trans hle208) ⟨rfl, rfl⟩)))))))
 have h := ite_f hb204 h
 refine Ck (Bn (Tc ?_))
 obtain ⟨j210, hj210, h⟩ := bnd h
 refine WC.joinE (fun (_ : Unit) ρ' M' H' => M196.le M' ∧ [(g21, .cells (l25 a0 v0_11 v0_14).toArray 25 (0, 0))] :: F = H') j210 ?_ ?_
 have h3210 := h
 have h := hj210
 refine Sr (qu (pt g21 11) (Fa fo25_11 hs196_1 rfl) (qu v0_11 (Lb 0 pl22 rfl rfl rfl) ?_))
 have h0_11 := h0_11.mono (L186.trans hle196)
 refine qu (Iv (a0.Batches.length : Int)) (PO.lenS Tryz.underlying22 rfl h0_11.len) (qm (Iv 0) (Nt (Bk ?_)))
 obtain ⟨e211, he211, hK211⟩ := bnd h
 clear h
 refine WC.loop he211 (fun (x212 : Int) ρ' M' H' => M196.le M' ∧ [(g21, .cells (l25 a0 v0_11 v0_14).toArray 25 (0, 0))] :: F = H' ∧ ρ' 185 = v0_11 ∧ ρ' 186 = (Iv (a0.Batches.length : Int)) ∧ ρ' 187 = (Iv x212)) ?_ ?_
 exact ⟨lr, rfl, rfl, rfl, rfl⟩
 rintro x212 o211 ρ211 M211 H211 h ⟨hle211, rfl, hs211_185, hs211_186, hs211_187⟩
 unfold f_rpc_Check_l0 at h
 refine Sr (qu (Bv (decide (x212 < (a0.Batches.length : Int)))) (PO.lss hs211_187 hs211_186) (Nt (Cs (Cd (b := decide (x212 < (a0.Batches.length : Int))) rfl (fun hb214 => ?_) (fun hb214 => ?_)))))
 have h := ite_t hb214 h
 refine Ck (Tc (Cs (Bk (Sr (qM (Iv x212) hs211_187 ?_)))))
 obtain ⟨hg215, h⟩ := grd_i h
 have h0_11 := h0_11.mono hle211
 obtain ⟨p216, cs217, hat218, hrc219, hhas220⟩ := h0_11.at hg215.1 hg215.2 (by decide)
 obtain ⟨vw221_2, rfl, hw221_2⟩ := kd_api_Batch_open hrc219
 refine qu (.pointer (some p216)) (PO.indexAddr (n := a0.Batches.length) Tryz.underlying22 sz55 hs211_185 hs211_187 hg215.1 hg215.2 hat218) (qu (a55_ (rd a0.Batches x212) vw221_2) (PO.loadMA (cs := (l55 (rd a0.Batches x212) vw221_2)) ag55 sz55 rfl hhas220) (We (Al ze55 rfl) rfl ?_))
 rintro _ _ _ - ⟨rfl, g222, rfl, rfl⟩
 refine qa (Iv x212) (We (Sg (v := (a55_ (rd a0.Batches x212) vw221_2)) (vl := (l55 (rd a0.Batches x212) vw221_2)) (arr' := (l55 (rd a0.Batches x212) vw221_2)) rfl sz55 rfl rfl (onesOf (Oc rfl (Oc rfl (Oc (RS.one hw221_2) Oz)))) rfl rfl rfl) rfl ?_)
 rintro _ _ _ - ⟨rfl, rfl⟩
 refine Ns (qu (a55_ (rd a0.Batches x212) vw221_2) (La (cs := (l55 (rd a0.Batches x212) vw221_2)) 0 ag55 sz55 rfl rfl rfl) ?_)
 obtain ⟨r223, hr224, h⟩ := bnd h
 refine We (Ca co49 (f_batch_Check_ok (rd a0.Batches x212) _ _ hw221_2 r223 hr224) (args1 rfl)) rfl ?_
 rintro _ M225 _ hle226 ⟨_, ⟨rfl, rfl⟩, rfl⟩
 refine WL.a0 (qa (GV r223) (Ns (qm (GV r223) (qu (Bv (!r223.isNil)) (PO.errNotNil Tryz.underlying31 rfl) (Nt (Cd (b := !r223.isNil) rfl (fun hb228 => ?_) (fun hb228 => ?_)))))))
 have h := ite_t hb228 h
 refine Sr (qm (Iv x212) (qm (GV r223) ?_))
 obtain ⟨r229, hr230, h⟩ := bnd h
 refine We (Ca co29 (f_fault_Wrap_ok ⟨#[98, 97, 116, 99, 104]⟩ x212 r223 _ r229 hr230) (args3 rfl rfl rfl)) rfl ?_
 rintro _ M231 _ hle232 ⟨_, ⟨rfl, rfl⟩, rfl⟩
 refine WL.a0 (qa (GV r229) (Nt (Cr (Br (Tr (WQ.leaveR (Sum.inr r229) (oi h).symm (fun heq211 => ?_)))))))
 subst heq211
 have h := (elimR hK211)
 refine Br (Tr ?_)
 have h := KK.early h h3210
 exact Dr (Dr (Rf h [] rfl (Rs rfl rfl) (((L196.trans hle211).trans hle226).trans hle232) ⟨rfl, rfl⟩))
 have h := ite_f hb228 h
 exact Ck (Bn (Tc (Cg (qu (Iv (IntKind.i64.wrap (x212 + 1))) (PO.add hs211_187 rfl) (qm (Iv (IntKind.i64.wrap (x212 + 1))) (Wz (Dr (WQ.again (IntKind.i64.wrap (x212 + 1)) (oi h).symm ⟨(hle211.trans hle226), rfl, hs211_185, hs211_186, rfl⟩))))))))
 have h := ite_f hb214 h
 refine WC.exit (WQ.thenE (WQ.leaveE (Sum.inl ()) (oi h).symm (fun heq211 => ?_)))
 subst heq211
 have h := elimL hK211
 exact WQ.blockH (WQ.thenFE h ⟨hle211, rfl⟩)
 rintro _ ρ210 M210 H210 rfl ⟨hle210, rfl⟩
 have h := (Sum.elim_inl _ _ _).symm.trans h
 exact Sr (qa (GV GErr.nil) (Nt (Cr (Dr (Rf h [] rfl (Rs rfl rfl) (L196.trans hle210) ⟨rfl, rfl⟩)))))
 exact Tz
 exact Tz
 exact Tz
 exact Tz
 exact Tz
 exact Tz


end Go.Proofs.YtkflneabcannnaaGreatDoor.G
