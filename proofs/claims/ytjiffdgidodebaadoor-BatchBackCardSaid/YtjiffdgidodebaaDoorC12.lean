/- Go functions: what they come to, and that they do. Printed by a program of the session (gen). -/
import Derived.Test.YtjiffdgidodebaaDoorCF
import Derived.Test.YtjiffdgidodebaaDoorC11
import Derived.Test.YtjiffdgidodebaaDoorKShar2
import Derived.Test.YtjiffdgidodebaaDoorKConv
set_option linter.unusedVariables false
set_option linter.unusedSimpArgs false
set_option maxHeartbeats 8000000
set_option maxRecDepth 100000
namespace Go.Proofs.YtjiffdgidodebaaDoor.G
open Go Go.KK

noncomputable def f_law06_BatchBack (a0 : T_api_Batch) (a1 : (List Int)) : Option Bool :=
  ((((f_ref06_Short a0.Records).bind fun (r24 : Bool) => (if (!r24) = true then (some true) else (some (decide ((1500 : Int) < (a1.length : Int)))))) : Option Bool).bind fun (x22 : Bool) => (if x22 = true then ((f_law06_works).bind fun (r31 : Bool) => (some r31)) else ((((f_batch_Put a0).bind fun (r37, r38) => (if r38.isNil = true then ((f_batch_Read r37).bind fun (r47, r48) => (((if (!r48.isNil) = true then (some true) else ((f_ref06_Same r47 a0).bind fun (r58 : Bool) => (some (!r58)))) : Option Bool).bind fun (x55 : Bool) => (if x55 = true then (((some false)).bind fun r => some (Sum.inr r)) else (some (Sum.inl ()))))) else (some (Sum.inl ())))) : Option (Unit ⊕ Bool)).bind (Sum.elim (fun _ => ((f_batch_Read a1).bind fun (r67, r68) => (if (!r68.isNil) = true then ((((f_ref06_Same r67 (⟨(0 : Int), (0 : Int), []⟩ : T_api_Batch)).bind fun (r78 : Bool) => (if r78 = true then ((f_law06_works).bind fun (r87 : Bool) => (some r87)) else (some false))) : Option Bool).bind fun (x76 : Bool) => (some x76)) else ((f_batch_Put r67).bind fun (r92, r93) => (((if r93.isNil = true then ((f_ref02_Same r92 a1).bind fun (r105 : Bool) => (if r105 = true then ((f_law06_works).bind fun (r114 : Bool) => (some r114)) else (some false))) else (some false)) : Option Bool).bind fun (x102 : Bool) => (some x102)))))) some))))
def f_law06_BatchBack_post (a0 : T_api_Batch) (a1 : (List Int)) (v0_2 v1 : Value) : Bool → Value → IM → HL → Prop :=
  fun (r0 : Bool) (v : Value) (M' : IM) (H' : HL) => (.bool r0) = v ∧ H' = []
theorem f_law06_BatchBack_ok (a0 : T_api_Batch) (a1 : (List Int)) (M : IM) (v0_2 v1 : Value) (h0_2 : RS kd_api_Record M v0_2 a0.Records) (h1 : RS (Kd.int .u8) M v1 a1) (hE : Env M) (res : Bool) (h : f_law06_BatchBack a0 a1 = some res) :
    Tri Tryd.prog 8 #[(a66_ a0 v0_2), v1] M [] (f_law06_BatchBack_post a0 a1 v0_2 v1 res) := by
 unfold f_law06_BatchBack at h
 refine Tri.enter (fn := Tryd.f8) Tryd.func8 rfl (Nat.le_of_ble_eq_true rfl) ?_
 intro F ρ hρ
 refine Sr ?_
 refine WL.eff (EO.box (cs := (l66 a0 v0_2).toArray) (congrArg Value.cells (asE (a66_ a0 v0_2) (hρ 0)))) rfl ?_
 rintro _ _ _ - ⟨rfl, g21, rfl, rfl⟩
 refine Pa (.bool false) rfl rfl ?_
 refine Nt ?_
 refine WC.seq ?_
 obtain ⟨x22, hj23, h⟩ := bnd h
 refine WC.joinF (fun (x22 : Bool) ρ' M' H' => M.le M' ∧ [(g21, .cells (l66 a0 v0_2).toArray 66 (0, 0))] :: F = H' ∧ ρ' 1 = v1 ∧ ρ' 2 = (pt g21 0) ∧ ρ' 21 = (.bool x22)) x22 ?_ ?_
 have h323 := h
 have h := hj23
 refine WC.region ?_
 refine Pu (pt g21 2) (PO.fieldAddr fo66_2 rfl rfl) rfl ?_
 refine Pu v0_2 (PO.loadB 0 pl64 rfl rfl rfl) rfl ?_
 obtain ⟨r24, hr25, h⟩ := bnd h
 refine WL.eff (EO.call0 co27 (f_ref06_Short_ok a0.Records _ _ h0_2 r24 hr25) (args1 rfl)) rfl ?_
 rintro _ M26 _ hle27 ⟨_, ⟨rfl, rfl⟩, rfl⟩
 have h1 := h1.mono hle27
 have h0_2 := h0_2.mono hle27
 have hE := hE.mono hle27
 refine WL.a0 ?_
 refine Pu (.bool (!r24)) (PO.not rfl) rfl ?_
 refine Pm (.bool (!r24)) rfl rfl ?_
 rcases Bool.eq_false_or_eq_true (!r24) with hb29 | hb29
 have h := ite_t hb29 h
 iterate 3 refine Of 17 rfl rfl hb29 rfl ?_
 refine Pu (.bool true) (PO.pickT rfl hb29 rfl) rfl ?_
 refine WL.nil ?_
 obtain rfl := Option.some.inj h
 refine WQ.thenJ ?_
 exact ⟨hle27, rfl, (hρ 1), rfl, rfl⟩
 have h := ite_f hb29 h
 refine On 17 rfl rfl hb29 ?_
 refine Pm v1 (hρ 1) rfl ?_
 refine On 17 rfl rfl hb29 ?_
 refine Pu (.int .i64 (a1.length : Int)) (PO.lenS Tryd.underlying26 rfl h1.len) rfl ?_
 refine On 17 rfl rfl hb29 ?_
 refine Pu (.bool (decide ((1500 : Int) < (a1.length : Int)))) (PO.gtr rfl rfl) rfl ?_
 refine Pu (.bool (decide ((1500 : Int) < (a1.length : Int)))) (PO.pickF rfl hb29 rfl) rfl ?_
 refine WL.nil ?_
 obtain rfl := Option.some.inj h
 refine WQ.thenJ ?_
 exact ⟨hle27, rfl, (hρ 1), rfl, rfl⟩
 rintro ρ23 M23 H23 ⟨hle23, rfl, hs23_1, hs23_2, hs23_21⟩
 have h1 := h1.mono hle23
 have h0_2 := h0_2.mono hle23
 have hE := hE.mono hle23
 refine WC.cond (b := x22) hs23_21 (fun hb30 => ?_) (fun hb30 => ?_)
 have h := ite_t hb30 h
 refine Sr ?_
 obtain ⟨r31, hr32, h⟩ := bnd h
 refine WL.eff (EO.call0 co28 (f_law06_works_ok _ hE r31 hr32) (args0)) rfl ?_
 rintro _ M33 _ hle34 ⟨_, ⟨rfl, rfl⟩, rfl⟩
 have h1 := h1.mono hle34
 have h0_2 := h0_2.mono hle34
 have hE := hE.mono hle34
 refine WL.a0 ?_
 refine Pa (.bool r31) rfl rfl ?_
 refine Nt ?_
 refine WC.ret ?_
 refine WQ.thenR ?_
 refine WQ.drop ?_
 exact WQ.returnsF h [] rfl (results1 rfl rfl) (hle23.trans hle34) ⟨rfl, rfl⟩
 have h := ite_f hb30 h
 refine WC.skip ?_
 refine WQ.thenC ?_
 obtain ⟨j36, hj36, h⟩ := bnd h
 refine WC.joinE (fun (_ : Unit) ρ' M' H' => M23.le M' ∧ [(g21, .cells (l66 a0 v0_2).toArray 66 (0, 0))] :: F = H' ∧ ρ' 1 = v1) j36 ?_ ?_
 have h336 := h
 have h := hj36
 refine Sr ?_
 refine Pu (a66_ a0 v0_2) (PO.loadBA (cs := (l66 a0 v0_2)) 0 ag66 sz66 hs23_2 rfl rfl) rfl ?_
 obtain ⟨⟨r37, r38⟩, hr39, h⟩ := bnd h
 refine WL.eff (EO.call0 co29 (f_batch_Put_ok a0 _ _ h0_2 (r37, r38) hr39) (args1 rfl)) rfl ?_
 rintro _ M40 _ hle41 ⟨_, ⟨vq42, cq42, rfl, rfl, hq42⟩, rfl⟩
 have h1 := h1.mono hle41
 have h0_2 := h0_2.mono hle41
 have hE := hE.mono hle41
 refine WL.a1 ?_
 refine Pm (.tuple #[vq42, (GV r38)]) rfl rfl ?_
 refine Pu vq42 (PO.extract rfl rfl) rfl ?_
 refine Pu (GV r38) (PO.extract rfl rfl) rfl ?_
 refine Pa vq42 rfl rfl ?_
 refine Pa (GV r38) rfl rfl ?_
 refine Ns ?_
 refine Pm (GV r38) rfl rfl ?_
 refine Pu (.bool r38.isNil) (PO.errNil Tryd.underlying28 rfl) rfl ?_
 refine Nt ?_
 refine WC.cond (b := r38.isNil) rfl (fun hb44 => ?_) (fun hb44 => ?_)
 have h := ite_t hb44 h
 refine Sr ?_
 refine Pm vq42 rfl rfl ?_
 refine WL.know (fun _ hs => hq42.rs hs) (fun hf46 => ?_)
 refine WL.freeze (fun hle45 => ?_)
 have h1 := h1.mono hle45
 have h0_2 := h0_2.mono hle45
 have hE := hE.mono hle45
 obtain ⟨⟨r47, r48⟩, hr49, h⟩ := bnd h
 refine WL.eff (EO.call0 co30 (f_batch_Read_ok r37 _ _ hf46 hE (r47, r48) hr49) (args1 rfl)) rfl ?_
 rintro _ M50 _ hle51 ⟨_, ⟨vq52_2, cq52_2, rfl, rfl, hq52_2⟩, rfl⟩
 have h1 := h1.mono hle51
 have hf46 := hf46.mono hle51
 have h0_2 := h0_2.mono hle51
 have hE := hE.mono hle51
 refine WL.a1 ?_
 refine Pm (.tuple #[(a66_ r47 vq52_2), (GV r48)]) rfl rfl ?_
 refine Pu (a66_ r47 vq52_2) (PO.extract rfl rfl) rfl ?_
 refine Pu (GV r48) (PO.extract rfl rfl) rfl ?_
 refine WL.eff (EO.alloc ze66 rfl) rfl ?_
 rintro _ _ _ - ⟨rfl, g54, rfl, rfl⟩
 refine WL.eff (EO.storeL (v := (a66_ r47 vq52_2)) (vl := (l66 r47 vq52_2)) (arr' := (l66 r47 vq52_2)) rfl sz66 rfl rfl (onesOf (Ones.cons rfl (Ones.cons rfl (Ones.cons (OwnS.one hq52_2) Ones.nil)))) rfl rfl rfl) rfl ?_
 rintro _ _ _ - ⟨rfl, rfl⟩
 refine Pa (GV r48) rfl rfl ?_
 refine Nt ?_
 obtain ⟨x55, hj56, h⟩ := bnd h
 refine WC.joinF (fun (x55 : Bool) ρ' M' H' => M50.le M' ∧ [(g54, .cells (l66 r47 vq52_2).toArray 66 (0, 0))] :: [(g21, .cells (l66 a0 v0_2).toArray 66 (0, 0))] :: cq52_2 :: F = H' ∧ ρ' 1 = v1 ∧ ρ' 42 = (.bool x55)) x55 ?_ ?_
 have h356 := h
 have h := hj56
 refine WC.region ?_
 refine Pm (GV r48) rfl rfl ?_
 refine Pu (.bool (!r48.isNil)) (PO.errNotNil Tryd.underlying28 rfl) rfl ?_
 refine Pm (.bool (!r48.isNil)) rfl rfl ?_
 rcases Bool.eq_false_or_eq_true (!r48.isNil) with hb57 | hb57
 have h := ite_t hb57 h
 iterate 4 refine Of 37 rfl rfl hb57 rfl ?_
 refine Pu (.bool true) (PO.pickT rfl hb57 rfl) rfl ?_
 refine WL.nil ?_
 refine WQ.f1 ?_
 refine WQ.f2 ?_
 refine WQ.f2 ?_
 obtain rfl := Option.some.inj h
 refine WQ.thenJ ?_
 exact ⟨(IM.le.refl _), rfl, hs23_1, rfl⟩
 have h := ite_f hb57 h
 refine On 37 rfl rfl hb57 ?_
 refine Pu (a66_ r47 vq52_2) (PO.loadBA (cs := (l66 r47 vq52_2)) 0 ag66 sz66 rfl rfl rfl) rfl ?_
 refine On 37 rfl rfl hb57 ?_
 refine Pu (a66_ a0 v0_2) (PO.loadBA (cs := (l66 a0 v0_2)) 2 ag66 sz66 hs23_2 rfl rfl) rfl ?_
 refine On 37 rfl rfl hb57 ?_
 obtain ⟨r58, hr59, h⟩ := bnd h
 refine WL.f1 ?_
 refine WL.eff (EO.call1 co31 (Tri.lend hq52_2.excl fun w0_ H0_ hs0_ => (f_ref06_Same_ok r47 a0 _ _ _ (hq52_2.rs hs0_) (h0_2.mono (IM.le_add _ _)) r58 hr59)) (args2 rfl rfl)) rfl ?_
 rintro _ _ _ hle61 ⟨_, ⟨Ml63, Hl64, hll65, rfl, rfl, ⟨rfl, rfl⟩⟩, rfl⟩
 have h1 := h1.mono hle61
 have hq52_2 := hq52_2.mono hle61
 have h0_2 := h0_2.mono hle61
 have hE := hE.mono hle61
 refine WL.a1 ?_
 refine On 37 rfl rfl hb57 ?_
 refine Pu (.bool (!r58)) (PO.not rfl) rfl ?_
 refine Pu (.bool (!r58)) (PO.pickF rfl hb57 rfl) rfl ?_
 refine WL.nil ?_
 refine WQ.f2 ?_
 refine WQ.f2 ?_
 obtain rfl := Option.some.inj h
 refine WQ.thenJ ?_
 exact ⟨hle61, rfl, hs23_1, rfl⟩
 rintro ρ56 M56 H56 ⟨hle56, rfl, hs56_1, hs56_42⟩
 have h1 := h1.mono hle56
 have hq52_2 := hq52_2.mono hle56
 have h0_2 := h0_2.mono hle56
 have hE := hE.mono hle56
 refine WC.cond (b := x55) hs56_42 (fun hb66 => ?_) (fun hb66 => ?_)
 have h := ite_t hb66 h
 refine Sr ?_
 refine Pa (.bool false) rfl rfl ?_
 refine Nt ?_
 refine WC.ret ?_
 refine WQ.thenR ?_
 have h := KK.early h h336
 refine WQ.drop ?_
 refine WQ.drop ?_
 refine WQ.drop ?_
 exact WQ.returnsF h [] rfl (results1 rfl rfl) ((((hle23.trans hle41).trans hle45).trans hle51).trans hle56) ⟨rfl, rfl⟩
 have h := ite_f hb66 h
 refine WC.skip ?_
 refine WQ.drop ?_
 refine WQ.f1 ?_
 refine WQ.drop ?_
 refine WQ.thenFE h ?_
 exact ⟨(((hle41.trans hle45).trans hle51).trans hle56), rfl, hs56_1⟩
 have h := ite_f hb44 h
 refine WC.skip ?_
 refine WQ.drop ?_
 refine WQ.thenFE h ?_
 exact ⟨hle41, rfl, hs23_1⟩
 rintro _ ρ36 M36 H36 rfl ⟨hle36, rfl, hs36_1⟩
 have h := (Sum.elim_inl _ _ _).symm.trans h
 have h1 := h1.mono hle36
 have h0_2 := h0_2.mono hle36
 have hE := hE.mono hle36
 refine Sr ?_
 refine Pm v1 hs36_1 rfl ?_
 obtain ⟨⟨r67, r68⟩, hr69, h⟩ := bnd h
 refine WL.eff (EO.call0 co30 (f_batch_Read_ok a1 _ _ h1 hE (r67, r68) hr69) (args1 rfl)) rfl ?_
 rintro _ M70 _ hle71 ⟨_, ⟨vq72_2, cq72_2, rfl, rfl, hq72_2⟩, rfl⟩
 have h1 := h1.mono hle71
 have h0_2 := h0_2.mono hle71
 have hE := hE.mono hle71
 refine WL.a1 ?_
 refine Pm (.tuple #[(a66_ r67 vq72_2), (GV r68)]) rfl rfl ?_
 refine Pu (a66_ r67 vq72_2) (PO.extract rfl rfl) rfl ?_
 refine Pu (GV r68) (PO.extract rfl rfl) rfl ?_
 refine WL.eff (EO.alloc ze66 rfl) rfl ?_
 rintro _ _ _ - ⟨rfl, g74, rfl, rfl⟩
 refine WL.eff (EO.storeL (v := (a66_ r67 vq72_2)) (vl := (l66 r67 vq72_2)) (arr' := (l66 r67 vq72_2)) rfl sz66 rfl rfl (onesOf (Ones.cons rfl (Ones.cons rfl (Ones.cons (OwnS.one hq72_2) Ones.nil)))) rfl rfl rfl) rfl ?_
 rintro _ _ _ - ⟨rfl, rfl⟩
 refine Pa (GV r68) rfl rfl ?_
 refine Nt ?_
 refine WC.seq ?_
 refine Sr ?_
 refine Pm (GV r68) rfl rfl ?_
 refine Pu (.bool (!r68.isNil)) (PO.errNotNil Tryd.underlying28 rfl) rfl ?_
 refine Nt ?_
 refine WC.cond (b := !r68.isNil) rfl (fun hb75 => ?_) (fun hb75 => ?_)
 have h := ite_t hb75 h
 obtain ⟨x76, hj77, h⟩ := bnd h
 refine WC.joinF (fun (x76 : Bool) ρ' M' H' => M70.le M' ∧ [(g74, .cells (l66 r67 vq72_2).toArray 66 (0, 0))] :: [(g21, .cells (l66 a0 v0_2).toArray 66 (0, 0))] :: cq72_2 :: F = H' ∧ ρ' 4 = (.bool x76)) x76 ?_ ?_
 have h377 := h
 have h := hj77
 refine WC.region ?_
 refine Pu (a66_ r67 vq72_2) (PO.loadBA (cs := (l66 r67 vq72_2)) 0 ag66 sz66 rfl rfl rfl) rfl ?_
 refine Pu (.agg #[(.int .i64 0), (.int .i64 0), (.slice none 0 0)]) (PO.buildL (cl := [(.int .i64 0), (.int .i64 0), (.slice none 0 0)]) ze66 fp66 Parts.nil rfl) rfl ?_
 obtain ⟨r78, hr79, h⟩ := bnd h
 refine WL.f1 ?_
 refine WL.eff (EO.call1 co31 (Tri.lend hq72_2.excl fun w0_ H0_ hs0_ => (f_ref06_Same_ok r67 (⟨(0 : Int), (0 : Int), []⟩ : T_api_Batch) _ _ _ (hq72_2.rs hs0_) (RS.nil _ _) r78 hr79)) (args2 rfl rfl)) rfl ?_
 rintro _ _ _ hle81 ⟨_, ⟨Ml83, Hl84, hll85, rfl, rfl, ⟨rfl, rfl⟩⟩, rfl⟩
 have h1 := h1.mono hle81
 have hq72_2 := hq72_2.mono hle81
 have h0_2 := h0_2.mono hle81
 have hE := hE.mono hle81
 refine WL.a1 ?_
 refine Pm (.bool r78) rfl rfl ?_
 rcases Bool.eq_false_or_eq_true (r78) with hb86 | hb86
 have h := ite_t hb86 h
 refine On 53 rfl rfl hb86 ?_
 obtain ⟨r87, hr88, h⟩ := bnd h
 refine WL.eff (EO.call0 co28 (f_law06_works_ok _ hE r87 hr88) (args0)) rfl ?_
 rintro _ M89 _ hle90 ⟨_, ⟨rfl, rfl⟩, rfl⟩
 have h1 := h1.mono hle90
 have hq72_2 := hq72_2.mono hle90
 have h0_2 := h0_2.mono hle90
 have hE := hE.mono hle90
 refine WL.a0 ?_
 refine Pu (.bool r87) (PO.pickT rfl hb86 rfl) rfl ?_
 refine Pa (.bool r87) rfl rfl ?_
 refine WL.nil ?_
 refine WQ.f2 ?_
 refine WQ.f2 ?_
 obtain rfl := Option.some.inj h
 refine WQ.thenJ ?_
 exact ⟨(hle81.trans hle90), rfl, rfl⟩
 have h := ite_f hb86 h
 refine Of 53 rfl rfl hb86 rfl ?_
 refine Pu (.bool false) (PO.pickF rfl hb86 rfl) rfl ?_
 refine Pa (.bool false) rfl rfl ?_
 refine WL.nil ?_
 refine WQ.f2 ?_
 refine WQ.f2 ?_
 obtain rfl := Option.some.inj h
 refine WQ.thenJ ?_
 exact ⟨hle81, rfl, rfl⟩
 rintro ρ77 M77 H77 ⟨hle77, rfl, hs77_4⟩
 have hq72_2 := hq72_2.mono hle77
 have h0_2 := h0_2.mono hle77
 have hE := hE.mono hle77
 refine WC.ret ?_
 refine WQ.thenR ?_
 refine WQ.drop ?_
 refine WQ.drop ?_
 refine WQ.drop ?_
 exact WQ.returnsF h [] rfl (results1 rfl hs77_4) (((hle23.trans hle36).trans hle71).trans hle77) ⟨rfl, rfl⟩
 have h := ite_f hb75 h
 refine WC.skip ?_
 refine WQ.thenC ?_
 refine Sr ?_
 refine Pu (a66_ r67 vq72_2) (PO.loadBA (cs := (l66 r67 vq72_2)) 0 ag66 sz66 rfl rfl rfl) rfl ?_
 obtain ⟨⟨r92, r93⟩, hr94, h⟩ := bnd h
 refine WL.f1 ?_
 refine WL.eff (EO.call1 co29 (Tri.lend hq72_2.excl fun w0_ H0_ hs0_ => (f_batch_Put_ok r67 _ _ (hq72_2.rs hs0_) (r92, r93) hr94)) (args1 rfl)) rfl ?_
 rintro _ _ _ hle96 ⟨_, ⟨Ml99, Hl100, hll101, rfl, rfl, ⟨vq97, cq97, rfl, rfl, hq97⟩⟩, rfl⟩
 have h1 := h1.mono hle96
 have hq72_2 := hq72_2.mono hle96
 have h0_2 := h0_2.mono hle96
 have hE := hE.mono hle96
 have hq97 : OwnS (Kd.int .u8) (Ml99.minus cq72_2) vq97 r92 cq97 := hq97.any (Kd.int_flat _)
 refine WL.a2 ?_
 refine Pm (.tuple #[vq97, (GV r93)]) rfl rfl ?_
 refine Pu vq97 (PO.extract rfl rfl) rfl ?_
 refine Pu (GV r93) (PO.extract rfl rfl) rfl ?_
 refine Pa vq97 rfl rfl ?_
 refine Pa (GV r93) rfl rfl ?_
 refine Nt ?_
 obtain ⟨x102, hj103, h⟩ := bnd h
 refine WC.joinF (fun (x102 : Bool) ρ' M' H' => (Ml99.minus cq72_2).le M' ∧ [(g74, .cells (l66 r67 vq72_2).toArray 66 (0, 0))] :: [(g21, .cells (l66 a0 v0_2).toArray 66 (0, 0))] :: cq72_2 :: F = H' ∧ ρ' 4 = (.bool x102)) x102 ?_ ?_
 have h3103 := h
 have h := hj103
 refine WC.region ?_
 refine Pm (GV r93) rfl rfl ?_
 refine Pu (.bool r93.isNil) (PO.errNil Tryd.underlying28 rfl) rfl ?_
 refine Pm (.bool r93.isNil) rfl rfl ?_
 rcases Bool.eq_false_or_eq_true (r93.isNil) with hb104 | hb104
 have h := ite_t hb104 h
 refine On 63 rfl rfl hb104 ?_
 refine Pm vq97 rfl rfl ?_
 refine On 63 rfl rfl hb104 ?_
 refine Pm v1 hs36_1 rfl ?_
 refine On 63 rfl rfl hb104 ?_
 obtain ⟨r105, hr106, h⟩ := bnd h
 refine WL.f1 ?_
 refine WL.eff (EO.call1 co19 (Tri.lend hq97.excl fun w0_ H0_ hs0_ => (f_ref02_Same_ok r92 a1 _ _ _ (hq97.rs hs0_) (h1.mono (IM.le_add _ _)) r105 hr106)) (args2 rfl rfl)) rfl ?_
 rintro _ _ _ hle108 ⟨_, ⟨Ml110, Hl111, hll112, rfl, rfl, ⟨rfl, rfl⟩⟩, rfl⟩
 have h1 := h1.mono hle108
 have hq97 := hq97.mono hle108
 have h0_2 := h0_2.mono hle108
 have hq72_2 := hq72_2.mono hle108
 have hE := hE.mono hle108
 refine WL.a1 ?_
 refine Pu (.bool r105) (PO.pickT rfl hb104 rfl) rfl ?_
 refine Pm (.bool r105) rfl rfl ?_
 rcases Bool.eq_false_or_eq_true (r105) with hb113 | hb113
 have h := ite_t hb113 h
 refine On 68 rfl rfl hb113 ?_
 obtain ⟨r114, hr115, h⟩ := bnd h
 refine WL.eff (EO.call0 co28 (f_law06_works_ok _ hE r114 hr115) (args0)) rfl ?_
 rintro _ M116 _ hle117 ⟨_, ⟨rfl, rfl⟩, rfl⟩
 have h1 := h1.mono hle117
 have hq97 := hq97.mono hle117
 have h0_2 := h0_2.mono hle117
 have hq72_2 := hq72_2.mono hle117
 have hE := hE.mono hle117
 refine WL.a0 ?_
 refine Pu (.bool r114) (PO.pickT rfl hb113 rfl) rfl ?_
 refine Pa (.bool r114) rfl rfl ?_
 refine WL.nil ?_
 refine WQ.drop ?_
 refine WQ.f2 ?_
 refine WQ.f2 ?_
 obtain rfl := Option.some.inj h
 refine WQ.thenJ ?_
 exact ⟨(hle108.trans hle117), rfl, rfl⟩
 have h := ite_f hb113 h
 refine Of 68 rfl rfl hb113 rfl ?_
 refine Pu (.bool false) (PO.pickF rfl hb113 rfl) rfl ?_
 refine Pa (.bool false) rfl rfl ?_
 refine WL.nil ?_
 refine WQ.drop ?_
 refine WQ.f2 ?_
 refine WQ.f2 ?_
 obtain rfl := Option.some.inj h
 refine WQ.thenJ ?_
 exact ⟨hle108, rfl, rfl⟩
 have h := ite_f hb104 h
 iterate 3 refine Of 63 rfl rfl hb104 rfl ?_
 refine Pu (.bool false) (PO.pickF rfl hb104 rfl) rfl ?_
 refine Pm (.bool false) rfl rfl ?_
 refine Of 68 rfl rfl rfl rfl ?_
 refine Pu (.bool false) (PO.pickF rfl rfl rfl) rfl ?_
 refine Pa (.bool false) rfl rfl ?_
 refine WL.nil ?_
 refine WQ.f1 ?_
 refine WQ.drop ?_
 refine WQ.f2 ?_
 refine WQ.f2 ?_
 obtain rfl := Option.some.inj h
 refine WQ.thenJ ?_
 exact ⟨(IM.le.refl _), rfl, rfl⟩
 rintro ρ103 M103 H103 ⟨hle103, rfl, hs103_4⟩
 have hq72_2 := hq72_2.mono hle103
 have h0_2 := h0_2.mono hle103
 have hE := hE.mono hle103
 refine WC.ret ?_
 refine WQ.drop ?_
 refine WQ.drop ?_
 refine WQ.drop ?_
 exact WQ.returnsF h [] rfl (results1 rfl hs103_4) ((((hle23.trans hle36).trans hle71).trans hle96).trans hle103) ⟨rfl, rfl⟩


end Go.Proofs.YtjiffdgidodebaaDoor.G
