/- Go functions: what they come to, and that they do. Printed by a program of the session (gen). -/
import Derived.Test.YtjiffdgidodebaaGreatDoorPF
import Derived.Test.YtjiffdgidodebaaGreatDoorP16
import Derived.Test.YtjiffdgidodebaaGreatDoorKShar2
import Derived.Test.YtjiffdgidodebaaGreatDoorKConv
set_option linter.unusedVariables false
set_option linter.unusedSimpArgs false
set_option maxHeartbeats 8000000
set_option maxRecDepth 100000
namespace Go.Proofs.YtjiffdgidodebaaGreatDoor.G
open Go Go.KK

noncomputable def f_law06_BatchPuts (a0 : T_api_Batch) : Option Bool :=
  ((f_ref06_Short a0.Records).bind fun (r22 : Bool) => (if (!r22) = true then ((f_law06_works).bind fun (r28 : Bool) => (some r28)) else ((f_batch_Put a0).bind fun (r33, r34) => ((f_ref06_Put a0).bind fun (r40, r41) => ((((f_ref02_Same r33 r40).bind fun (r50 : Bool) => (if r50 = true then ((f_law06_wrong r34 r41).bind fun (r62 : Bool) => (if r62 = true then ((f_law06_works).bind fun (r68 : Bool) => (some r68)) else (some false))) else (some false))) : Option Bool).bind fun (x48 : Bool) => (some x48))))))
def f_law06_BatchPuts_post (a0 : T_api_Batch) (v0_2 : Value) : Bool → Value → IM → HL → Prop :=
  fun (r0 : Bool) (v : Value) (M' : IM) (H' : HL) => (.bool r0) = v ∧ H' = []
theorem f_law06_BatchPuts_ok (a0 : T_api_Batch) (M : IM) (v0_2 : Value) (h0_2 : RS kd_api_Record M v0_2 a0.Records) (hE : Env M) (res : Bool) (h : f_law06_BatchPuts a0 = some res) :
    Tri Tryz.prog 4 #[(a24_ a0 v0_2)] M [] (f_law06_BatchPuts_post a0 v0_2 res) := by
 unfold f_law06_BatchPuts at h
 refine Tri.enter (fn := Tryz.f4) Tryz.func4 rfl (Nat.le_of_ble_eq_true rfl) ?_
 intro F ρ hρ
 refine Sr ?_
 refine WL.eff (EO.box (cs := (l24 a0 v0_2).toArray) (congrArg Value.cells (asE (a24_ a0 v0_2) (hρ 0)))) rfl ?_
 rintro _ _ _ - ⟨rfl, g21, rfl, rfl⟩
 refine Pa (.bool false) rfl rfl ?_
 refine Nt ?_
 refine WC.seq ?_
 refine Sr ?_
 refine Pu (pt g21 2) (PO.fieldAddr fo24_2 rfl rfl) rfl ?_
 refine Pu v0_2 (PO.loadB 0 pl22 rfl rfl rfl) rfl ?_
 obtain ⟨r22, hr23, h⟩ := bnd h
 refine WL.eff (EO.call0 co6 (f_ref06_Short_ok a0.Records _ _ h0_2 r22 hr23) (args1 rfl)) rfl ?_
 rintro _ M24 _ hle25 ⟨_, ⟨rfl, rfl⟩, rfl⟩
 have h0_2 := h0_2.mono hle25
 have hE := hE.mono hle25
 refine WL.a0 ?_
 refine Pu (.bool (!r22)) (PO.not rfl) rfl ?_
 refine Nt ?_
 refine WC.cond (b := !r22) rfl (fun hb27 => ?_) (fun hb27 => ?_)
 have h := ite_t hb27 h
 refine Sr ?_
 obtain ⟨r28, hr29, h⟩ := bnd h
 refine WL.eff (EO.call0 co7 (f_law06_works_ok _ hE r28 hr29) (args0)) rfl ?_
 rintro _ M30 _ hle31 ⟨_, ⟨rfl, rfl⟩, rfl⟩
 have h0_2 := h0_2.mono hle31
 have hE := hE.mono hle31
 refine WL.a0 ?_
 refine Pa (.bool r28) rfl rfl ?_
 refine Nt ?_
 refine WC.ret ?_
 refine WQ.thenR ?_
 refine WQ.drop ?_
 exact WQ.returnsF h [] rfl (results1 rfl rfl) (hle25.trans hle31) ⟨rfl, rfl⟩
 have h := ite_f hb27 h
 refine WC.skip ?_
 refine WQ.thenC ?_
 refine Sr ?_
 refine Pu (a24_ a0 v0_2) (PO.loadBA (cs := (l24 a0 v0_2)) 0 ag24 sz24 rfl rfl rfl) rfl ?_
 obtain ⟨⟨r33, r34⟩, hr35, h⟩ := bnd h
 refine WL.eff (EO.call0 co15 (f_batch_Put_ok a0 _ _ h0_2 (r33, r34) hr35) (args1 rfl)) rfl ?_
 rintro _ M36 _ hle37 ⟨_, ⟨vq38, cq38, rfl, rfl, hq38⟩, rfl⟩
 have h0_2 := h0_2.mono hle37
 have hE := hE.mono hle37
 refine WL.a1 ?_
 refine Pm (.tuple #[vq38, (GV r34)]) rfl rfl ?_
 refine Pu vq38 (PO.extract rfl rfl) rfl ?_
 refine Pu (GV r34) (PO.extract rfl rfl) rfl ?_
 refine Pa vq38 rfl rfl ?_
 refine Pa (GV r34) rfl rfl ?_
 refine Ns ?_
 refine Pu (a24_ a0 v0_2) (PO.loadBA (cs := (l24 a0 v0_2)) 1 ag24 sz24 rfl rfl rfl) rfl ?_
 obtain ⟨⟨r40, r41⟩, hr42, h⟩ := bnd h
 refine WL.eff (EO.call0 co16 (f_ref06_Put_ok a0 _ _ h0_2 (r40, r41) hr42) (args1 rfl)) rfl ?_
 rintro _ M43 _ hle44 ⟨_, ⟨vq45, cq45, rfl, rfl, hq45⟩, rfl⟩
 have hq38 := hq38.mono hle44
 have h0_2 := h0_2.mono hle44
 have hE := hE.mono hle44
 refine WL.a1 ?_
 refine Pm (.tuple #[vq45, (a35_ r41)]) rfl rfl ?_
 refine Pu vq45 (PO.extract rfl rfl) rfl ?_
 refine Pu (a35_ r41) (PO.extract rfl rfl) rfl ?_
 refine WL.eff (EO.alloc ze35 rfl) rfl ?_
 rintro _ _ _ - ⟨rfl, g47, rfl, rfl⟩
 refine Pa vq45 rfl rfl ?_
 refine WL.eff (EO.storeL (v := (a35_ r41)) (vl := (l35 r41)) (arr' := (l35 r41)) rfl sz35 rfl rfl (onesOf (Ones.cons rfl (Ones.cons rfl (Ones.cons rfl (Ones.cons rfl Ones.nil))))) rfl rfl rfl) rfl ?_
 rintro _ _ _ - ⟨rfl, rfl⟩
 refine Nt ?_
 obtain ⟨x48, hj49, h⟩ := bnd h
 refine WC.joinF (fun (x48 : Bool) ρ' M' H' => M43.le M' ∧ [(g47, .cells (l35 r41).toArray 35 (0, 0))] :: [(g21, .cells (l24 a0 v0_2).toArray 24 (0, 0))] :: F = H' ∧ ρ' 2 = (.bool x48)) x48 ?_ ?_
 have h349 := h
 have h := hj49
 refine WC.region ?_
 refine Pm vq38 rfl rfl ?_
 refine Pm vq45 rfl rfl ?_
 obtain ⟨r50, hr51, h⟩ := bnd h
 refine WL.f1 ?_
 refine WL.f2 ?_
 refine WL.eff (EO.call2 co17 (Tri.lend hq38.excl fun w0_ H0_ hs0_ => (Tri.lend hq45.excl fun w1_ H1_ hs1_ => (f_ref02_Same_ok r33 r40 _ _ _ ((hq38.rs hs0_).mono (IM.le_add _ _)) ((hq45.mono (IM.le_add _ _)).rs hs1_) r50 hr51))) (args2 rfl rfl)) rfl ?_
 rintro _ _ _ hle53 ⟨_, ⟨Ml58, Hl59, hll60, rfl, rfl, ⟨Ml55, Hl56, hll57, rfl, rfl, ⟨rfl, rfl⟩⟩⟩, rfl⟩
 have hq38 := hq38.mono hle53
 have hq45 := hq45.mono hle53
 have h0_2 := h0_2.mono hle53
 have hE := hE.mono hle53
 refine WL.a2 ?_
 refine Pm (.bool r50) rfl rfl ?_
 rcases Bool.eq_false_or_eq_true (r50) with hb61 | hb61
 have h := ite_t hb61 h
 refine On 25 rfl rfl hb61 ?_
 refine Pm (GV r34) rfl rfl ?_
 refine On 25 rfl rfl hb61 ?_
 refine Pu (a35_ r41) (PO.loadBA (cs := (l35 r41)) 2 ag35 sz35 rfl rfl rfl) rfl ?_
 refine On 25 rfl rfl hb61 ?_
 obtain ⟨r62, hr63, h⟩ := bnd h
 refine WL.eff (EO.call0 co8 (f_law06_wrong_ok r34 r41 _ hE r62 hr63) (args2 rfl rfl)) rfl ?_
 rintro _ M64 _ hle65 ⟨_, ⟨rfl, rfl⟩, rfl⟩
 have hq38 := hq38.mono hle65
 have hq45 := hq45.mono hle65
 have h0_2 := h0_2.mono hle65
 have hE := hE.mono hle65
 refine WL.a0 ?_
 refine Pu (.bool r62) (PO.pickT rfl hb61 rfl) rfl ?_
 refine Pm (.bool r62) rfl rfl ?_
 rcases Bool.eq_false_or_eq_true (r62) with hb67 | hb67
 have h := ite_t hb67 h
 refine On 30 rfl rfl hb67 ?_
 obtain ⟨r68, hr69, h⟩ := bnd h
 refine WL.eff (EO.call0 co7 (f_law06_works_ok _ hE r68 hr69) (args0)) rfl ?_
 rintro _ M70 _ hle71 ⟨_, ⟨rfl, rfl⟩, rfl⟩
 have hq38 := hq38.mono hle71
 have hq45 := hq45.mono hle71
 have h0_2 := h0_2.mono hle71
 have hE := hE.mono hle71
 refine WL.a0 ?_
 refine Pu (.bool r68) (PO.pickT rfl hb67 rfl) rfl ?_
 refine Pa (.bool r68) rfl rfl ?_
 refine WL.nil ?_
 refine WQ.drop ?_
 refine WQ.drop ?_
 obtain rfl := Option.some.inj h
 refine WQ.thenJ ?_
 exact ⟨((hle53.trans hle65).trans hle71), rfl, rfl⟩
 have h := ite_f hb67 h
 refine Of 30 rfl rfl hb67 rfl ?_
 refine Pu (.bool false) (PO.pickF rfl hb67 rfl) rfl ?_
 refine Pa (.bool false) rfl rfl ?_
 refine WL.nil ?_
 refine WQ.drop ?_
 refine WQ.drop ?_
 obtain rfl := Option.some.inj h
 refine WQ.thenJ ?_
 exact ⟨(hle53.trans hle65), rfl, rfl⟩
 have h := ite_f hb61 h
 iterate 3 refine Of 25 rfl rfl hb61 rfl ?_
 refine Pu (.bool false) (PO.pickF rfl hb61 rfl) rfl ?_
 refine Pm (.bool false) rfl rfl ?_
 refine Of 30 rfl rfl rfl rfl ?_
 refine Pu (.bool false) (PO.pickF rfl rfl rfl) rfl ?_
 refine Pa (.bool false) rfl rfl ?_
 refine WL.nil ?_
 refine WQ.drop ?_
 refine WQ.drop ?_
 obtain rfl := Option.some.inj h
 refine WQ.thenJ ?_
 exact ⟨hle53, rfl, rfl⟩
 rintro ρ49 M49 H49 ⟨hle49, rfl, hs49_2⟩
 have h0_2 := h0_2.mono hle49
 have hE := hE.mono hle49
 refine WC.ret ?_
 refine WQ.drop ?_
 refine WQ.drop ?_
 exact WQ.returnsF h [] rfl (results1 rfl hs49_2) (((hle25.trans hle37).trans hle44).trans hle49) ⟨rfl, rfl⟩


end Go.Proofs.YtjiffdgidodebaaGreatDoor.G
