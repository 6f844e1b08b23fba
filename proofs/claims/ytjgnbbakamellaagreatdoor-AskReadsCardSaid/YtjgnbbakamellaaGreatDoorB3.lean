/- Go functions: what they come to, and that they do. Printed by a program of the session (gen). -/
import Derived.Test.YtjgnbbakamellaaGreatDoorBF
import Derived.Test.YtjgnbbakamellaaGreatDoorB2
import Derived.Test.YtjgnbbakamellaaGreatDoorKConv
import Derived.Test.YtjgnbbakamellaaGreatDoorKEq2
set_option linter.unusedVariables false
set_option linter.unusedSimpArgs false
set_option maxHeartbeats 8000000
set_option maxRecDepth 100000
namespace Go.Proofs.YtjgnbbakamellaaGreatDoor.G
open Go Go.KK

noncomputable def f_ask_Put (a0 : T_api_Request) : Option (T_api_Frame × GErr) :=
  ((f_ask_Check a0).bind fun (r23 : GErr) => (if (!r23.isNil) = true then (some ((⟨(0 : Int), []⟩ : T_api_Frame), r23)) else ((f_ask_about a0.Kind).bind fun (r30 : Int) => ((((f_wire_Int [] a0.Client).bind fun (r41 : (List Int)) => ((f_wire_Int r41 a0.Serial).bind fun (r47 : (List Int)) => ((f_wire_Int r47 a0.Kind).bind fun (r53 : (List Int)) => (some r53)))) : Option (List Int)).bind fun (x37 : (List Int)) => (((if (decide ((andI .i64 r30 (1 : Int)) ≠ (0 : Int))) = true then ((f_wire_Text x37 (bytesOf a0.Name)).bind fun (r99 : (List Int)) => (some r99)) else (some x37)) : Option (List Int)).bind fun (x93 : (List Int)) => (((if (decide ((andI .i64 r30 (2 : Int)) ≠ (0 : Int))) = true then ((f_wire_Text x93 (bytesOf a0.Key)).bind fun (r115 : (List Int)) => ((f_wire_Text r115 (bytesOf a0.Value)).bind fun (r126 : (List Int)) => ((f_wire_Flag r126 a0.Flag).bind fun (r134 : (List Int)) => (some r134)))) else (some x93)) : Option (List Int)).bind fun (x107 : (List Int)) => ((f_ask_Put_1 (4 : Int) a0.Parts r30 x107).bind fun (r190 : (List Int)) => ((f_ask_Put_1 (8 : Int) a0.Replicas r30 r190).bind fun (r197 : (List Int)) => ((f_ask_Put_1 (16 : Int) a0.Part r30 r197).bind fun (r204 : (List Int)) => ((f_ask_Put_1 (64 : Int) a0.Broker r30 r204).bind fun (r211 : (List Int)) => ((f_ask_Put_1 (128 : Int) a0.Epoch r30 r211).bind fun (r218 : (List Int)) => (((if (decide ((andI .i64 r30 (32 : Int)) ≠ (0 : Int))) = true then ((f_wire_Row r218 a0.Ids).bind fun (r228 : (List Int)) => (some r228)) else (some r218)) : Option (List Int)).bind fun (x225 : (List Int)) => (((if (decide ((andI .i64 r30 (256 : Int)) ≠ (0 : Int))) = true then ((f_wire_Text x225 (bytesOf a0.Rack)).bind fun (r239 : (List Int)) => (some r239)) else (some x225)) : Option (List Int)).bind fun (x233 : (List Int)) => (((if (decide ((andI .i64 r30 (512 : Int)) ≠ (0 : Int))) = true then ((f_wire_Int x233 a0.Word.Broker).bind fun (r251 : (List Int)) => ((f_wire_Int r251 a0.Word.Epoch).bind fun (r256 : (List Int)) => ((f_wire_Int r256 a0.Word.High).bind fun (r261 : (List Int)) => ((f_wire_Flag r261 a0.Word.Fence).bind fun (r266 : (List Int)) => ((f_wire_Flag r266 a0.Word.Leave).bind fun (r271 : (List Int)) => (some r271)))))) else (some x233)) : Option (List Int)).bind fun (x247 : (List Int)) => (some ((⟨(16 : Int), x247⟩ : T_api_Frame), GErr.nil))))))))))))))))
def f_ask_Put_post (a0 : T_api_Request) (v0_10 : Value) : (T_api_Frame × GErr) → Value → IM → HL → Prop :=
  fun (p_ : (T_api_Frame × GErr)) (v : Value) (M' : IM) (H' : HL) => match p_ with | (r0, r1) => ∃ vz0_1 cz0_1, (.tuple #[(.agg #[(.int .i64 r0.Kind), vz0_1]), (GV r1)]) = v ∧ H' = [cz0_1] ∧ OwnS (Kd.int .u8) M' vz0_1 r0.Body cz0_1
theorem f_ask_Put_ok (a0 : T_api_Request) (M : IM) (v0_10 : Value) (h0_10 : RS (Kd.int .i64) M v0_10 a0.Ids) (res : (T_api_Frame × GErr)) (h : f_ask_Put a0 = some res) :
    Tri Tryz.prog 11 #[(a28_ a0 v0_10)] M [] (f_ask_Put_post a0 v0_10 res) := by
 unfold f_ask_Put at h
 refine Tri.enter (fn := Tryz.f11) Tryz.func11 rfl (Nat.le_of_ble_eq_true rfl) ?_
 intro F ρ hρ
 refine Sr ?_
 refine WL.eff (EO.box (cs := (l28 a0 v0_10).toArray) (congrArg Value.cells (asE (a28_ a0 v0_10) (hρ 0)))) rfl ?_
 rintro _ _ _ - ⟨rfl, g21, rfl, rfl⟩
 refine WL.eff (EO.alloc ze34 rfl) rfl ?_
 rintro _ _ _ - ⟨rfl, g22, rfl, rfl⟩
 refine Pa (GV GErr.nil) rfl rfl ?_
 refine Nt ?_
 refine WC.seq ?_
 refine Sr ?_
 refine Pu (a28_ a0 v0_10) (PO.loadBA (cs := (l28 a0 v0_10)) 1 ag28 sz28 rfl rfl rfl) rfl ?_
 obtain ⟨r23, hr24, h⟩ := bnd h
 refine WL.eff (EO.call0 co15 (f_ask_Check_ok a0 _ _ h0_10 r23 hr24) (args1 rfl)) rfl ?_
 rintro _ M25 _ hle26 ⟨_, ⟨rfl, rfl⟩, rfl⟩
 have h0_10 := h0_10.mono hle26
 refine WL.a0 ?_
 refine Pa (GV r23) rfl rfl ?_
 refine Ns ?_
 refine Pm (GV r23) rfl rfl ?_
 refine Pu (.bool (!r23.isNil)) (PO.errNotNil Tryz.underlying30 rfl) rfl ?_
 refine Nt ?_
 refine WC.cond (b := !r23.isNil) rfl (fun hb28 => ?_) (fun hb28 => ?_)
 have h := ite_t hb28 h
 refine Sr ?_
 refine Pu (.agg #[(.int .i64 0), (.slice none 0 0)]) (PO.buildL (cl := [(.int .i64 0), (.slice none 0 0)]) ze34 fp34 Parts.nil rfl) rfl ?_
 refine Pm (GV r23) rfl rfl ?_
 refine WL.eff (EO.storeL (v := (.agg #[(.int .i64 0), (.slice none 0 0)])) (vl := [(.int .i64 0), (.slice none 0 0)]) (arr' := [(.int .i64 0), (.slice none 0 0)]) rfl sz34 rfl rfl (onesOf (Ones.cons rfl (Ones.cons rfl Ones.nil))) rfl rfl rfl) rfl ?_
 rintro _ _ _ - ⟨rfl, rfl⟩
 refine Pa (GV r23) rfl rfl ?_
 refine Nt ?_
 refine WC.ret ?_
 refine WQ.thenR ?_
 refine WQ.e0 ?_
 refine WQ.f2 ?_
 refine WQ.drop ?_
 refine WQ.f1 ?_
 exact WQ.returnsD h [[]] (fun _ hs => hs.drop) (resultsLN rfl (RVs.cons (RV.cellA (cs := [(.int .i64 0), (.slice none 0 0)]) 0 ag34 sz34 rfl rfl rfl) (RVs.cons (RV.tmp rfl) RVs.nil))) hle26 ⟨(.slice none 0 0), [], rfl, rfl, (OwnS.nil _ _)⟩
 have h := ite_f hb28 h
 refine WC.skip ?_
 refine WQ.thenC ?_
 refine Sr ?_
 refine Pu (pt g21 2) (PO.fieldAddr fo28_2 rfl rfl) rfl ?_
 refine Pu (.int .i64 a0.Kind) (PO.loadB 1 pl3 rfl rfl rfl) rfl ?_
 obtain ⟨r30, hr31, h⟩ := bnd h
 refine WL.eff (EO.call0 co21 (f_ask_about_ok a0.Kind _ r30 hr31) (args1 rfl)) rfl ?_
 rintro _ M32 _ hle33 ⟨_, ⟨rfl, rfl⟩, rfl⟩
 have h0_10 := h0_10.mono hle33
 refine WL.a0 ?_
 refine WL.eff (EO.alloc ze3 rfl) rfl ?_
 rintro _ _ _ - ⟨rfl, g35, rfl, rfl⟩
 refine WL.eff (EO.storeL (v := (.int .i64 r30)) (vl := [(.int .i64 r30)]) (arr' := [(.int .i64 r30)]) rfl sz3 rfl rfl (onesOf (Ones.cons rfl Ones.nil)) rfl rfl rfl) rfl ?_
 rintro _ _ _ - ⟨rfl, rfl⟩
 refine Nt ?_
 obtain ⟨x37, hj38, h⟩ := bnd h
 refine WC.joinF (fun (x37 : (List Int)) ρ' M' H' => ∃ g36 vx37 cx37, M32.le M' ∧ [(g35, .cells #[(.int .i64 r30)] 3 (0, 0))] :: [(g22, .cells #[(.int .i64 0), (.slice none 0 0)] 34 (0, 0))] :: [(g21, .cells (l28 a0 v0_10).toArray 28 (0, 0))] :: [(g36, .cells #[vx37] 22 (0, 0))] :: cx37 :: F = H' ∧ ρ' 1 = (pt g21 0) ∧ ρ' 2 = (pt g22 0) ∧ ρ' 5 = (pt g35 0) ∧ ρ' 6 = (pt g36 0) ∧ OwnS (Kd.int .u8) M' vx37 x37 cx37) x37 ?_ ?_
 have h338 := h
 have h := hj38
 refine WC.draw [0, 1, 3, 0, 8, 31, 0, 64, 255, 0, 1023] (.pure 0 (.pure 1 (.pure 3 (.pure 4 (.pure 6 (.pure 7 (.alt 2 (.alt 5 (.alt 8 (.alt 9 (.alt 10 .done .none) .none) (.alt 9 (.alt 8 (.alt 10 .done .none) .none) .none)) (.alt 9 (.alt 5 (.alt 8 (.alt 10 .done .none) .none) .none) .none)) (.alt 9 (.alt 2 (.alt 5 (.alt 8 (.alt 10 .done .none) .none) .none) .none) .none)))))))) mixed (by kernel_rfl) ?_
 refine Tp (pt g21 0) rfl (PO.fieldAddr fo28_0 rfl rfl) rfl ?_
 refine Tp (.int .i64 a0.Client) rfl (PO.loadB 2 pl3 rfl rfl rfl) rfl ?_
 refine Tp (pt g21 1) rfl (PO.fieldAddr fo28_1 rfl rfl) rfl ?_
 refine Tp (.int .i64 a0.Serial) rfl (PO.loadB 2 pl3 rfl rfl rfl) rfl ?_
 refine Tp (pt g21 2) rfl (PO.fieldAddr fo28_2 rfl rfl) rfl ?_
 refine Tp (.int .i64 a0.Kind) rfl (PO.loadB 2 pl3 rfl rfl rfl) rfl ?_
 have hk39 := h
 obtain ⟨r41, hr42, h⟩ := bnd h
 refine WT.e0 ?_
 refine WT.alt rfl (EO.call1 co44 (f_wire_Int_ok [] a0.Client _ _ _ (OwnS.nil _ _) r41 hr42) (args2 rfl rfl)) rfl ?_ ?_
 rintro _ M43 _ hle44 ⟨_, ⟨vq45, cq45, rfl, rfl, hq45⟩, rfl⟩
 have h0_10 := h0_10.mono hle44
 refine ⟨(StabL.st (StabA.of rfl (PO.loadB 3 pl3 rfl rfl rfl) rfl) (StabL.st (StabA.of rfl (PO.fieldAddr fo28_2 rfl rfl) rfl) (StabL.st (StabA.of rfl (PO.loadB 3 pl3 rfl rfl rfl) rfl) (StabL.st (StabA.of rfl (PO.fieldAddr fo28_1 rfl rfl) rfl) (StabL.anc rfl (StabL.anc rfl trivial)))))), ?_⟩
 refine WT.a1 ?_
 have hk46 := h
 obtain ⟨r47, hr48, h⟩ := bnd h
 refine WT.alt rfl (EO.call1 co44 (f_wire_Int_ok r41 a0.Serial _ _ _ hq45 r47 hr48) (args2 rfl rfl)) rfl ?_ ?_
 rintro _ M49 _ hle50 ⟨_, ⟨vq51, cq51, rfl, rfl, hq51⟩, rfl⟩
 have hq45 := hq45.mono hle50
 have h0_10 := h0_10.mono hle50
 refine ⟨(StabL.st (StabA.of rfl (PO.loadB 3 pl3 rfl rfl rfl) rfl) (StabL.st (StabA.of rfl (PO.fieldAddr fo28_2 rfl rfl) rfl) (StabL.anc rfl (StabL.anc rfl (StabL.anc rfl (StabL.anc rfl trivial)))))), ?_⟩
 refine WT.a1 ?_
 have hk52 := h
 obtain ⟨r53, hr54, h⟩ := bnd h
 refine WT.alt rfl (EO.call1 co44 (f_wire_Int_ok r47 a0.Kind _ _ _ hq51 r53 hr54) (args2 rfl rfl)) rfl ?_ ?_
 rintro _ M55 _ hle56 ⟨_, ⟨vq57, cq57, rfl, rfl, hq57⟩, rfl⟩
 have hq45 := hq45.mono hle56
 have hq51 := hq51.mono hle56
 have h0_10 := h0_10.mono hle56
 refine ⟨(StabL.anc rfl (StabL.anc rfl (StabL.anc rfl (StabL.anc rfl (StabL.anc rfl (StabL.anc rfl trivial)))))), ?_⟩
 refine WT.a1 ?_
 refine WT.alt rfl (EO.alloc ze22 rfl) rfl ?_ ?_
 rintro _ _ _ - ⟨rfl, g58, rfl, rfl⟩
 refine ⟨(StabL.st (StabA.of rfl (PO.loadB 4 pl3 rfl rfl rfl) rfl) (StabL.st (StabA.of rfl (PO.fieldAddr fo28_2 rfl rfl) rfl) (StabL.st (StabA.of rfl (PO.loadB 4 pl3 rfl rfl rfl) rfl) (StabL.st (StabA.of rfl (PO.fieldAddr fo28_1 rfl rfl) rfl) (StabL.st (StabA.of rfl (PO.loadB 4 pl3 rfl rfl rfl) rfl) (StabL.st (StabA.of rfl (PO.fieldAddr fo28_0 rfl rfl) rfl) trivial)))))), ?_⟩
 refine WT.alt rfl (EO.storeL (v := vq57) (vl := [vq57]) (arr' := [vq57]) hq57.cells sz22 rfl rfl (onesOf (Ones.cons (OwnS.one hq57) Ones.nil)) rfl rfl rfl) rfl ?_ ?_
 rintro _ _ _ - ⟨rfl, rfl⟩
 refine ⟨(StabL.anc rfl (StabL.anc rfl (StabL.anc rfl (StabL.anc rfl (StabL.anc rfl (StabL.anc rfl trivial)))))), ?_⟩
 refine WT.fin ?_
 refine WQ.f1 ?_
 refine WQ.f1 ?_
 refine WQ.f4 ?_
 refine WQ.f4 ?_
 refine WQ.f4 ?_
 obtain rfl := Option.some.inj h
 refine WQ.thenJ ?_
 exact ⟨g58, vq57, cq57, ((hle44.trans hle50).trans hle56), rfl, rfl, rfl, rfl, rfl, hq57⟩
 exact WT.no
 exact WT.no
 have h := hk52
 refine WT.alt rfl (EO.alloc ze22 rfl) rfl ?_ ?_
 rintro _ _ _ - ⟨rfl, g59, rfl, rfl⟩
 refine ⟨(StabL.st (StabA.of rfl (PO.loadB 4 pl3 rfl rfl rfl) rfl) (StabL.st (StabA.of rfl (PO.fieldAddr fo28_2 rfl rfl) rfl) (StabL.st (StabA.of rfl (PO.loadB 4 pl3 rfl rfl rfl) rfl) (StabL.st (StabA.of rfl (PO.fieldAddr fo28_1 rfl rfl) rfl) (StabL.st (StabA.of rfl (PO.loadB 4 pl3 rfl rfl rfl) rfl) (StabL.st (StabA.of rfl (PO.fieldAddr fo28_0 rfl rfl) rfl) trivial)))))), ?_⟩
 obtain ⟨r60, hr61, h⟩ := bnd h
 refine WT.f1 ?_
 refine WT.alt rfl (EO.call1 co44 (f_wire_Int_ok r47 a0.Kind _ _ _ hq51 r60 hr61) (args2 rfl rfl)) rfl ?_ ?_
 rintro _ M62 _ hle63 ⟨_, ⟨vq64, cq64, rfl, rfl, hq64⟩, rfl⟩
 have hq45 := hq45.mono hle63
 have hq51 := hq51.mono hle63
 have h0_10 := h0_10.mono hle63
 refine ⟨(StabL.anc rfl (StabL.anc rfl (StabL.anc rfl (StabL.anc rfl (StabL.anc rfl (StabL.anc rfl trivial)))))), ?_⟩
 refine WT.a1 ?_
 refine WT.f1 ?_
 refine WT.alt rfl (EO.storeL (v := vq64) (vl := [vq64]) (arr' := [vq64]) hq64.cells sz22 rfl rfl (onesOf (Ones.cons (OwnS.one hq64) Ones.nil)) rfl rfl rfl) rfl ?_ ?_
 rintro _ _ _ - ⟨rfl, rfl⟩
 refine ⟨(StabL.anc rfl (StabL.anc rfl (StabL.anc rfl (StabL.anc rfl (StabL.anc rfl (StabL.anc rfl trivial)))))), ?_⟩
 refine WT.fin ?_
 refine WQ.f1 ?_
 refine WQ.f1 ?_
 refine WQ.f4 ?_
 refine WQ.f4 ?_
 refine WQ.f4 ?_
 obtain rfl := Option.some.inj h
 refine WQ.thenJ ?_
 exact ⟨g59, vq64, cq64, ((hle44.trans hle50).trans hle63), rfl, rfl, rfl, rfl, rfl, hq64⟩
 exact WT.no
 exact WT.no
 exact WT.no
 have h := hk46
 refine WT.alt rfl (EO.alloc ze22 rfl) rfl ?_ ?_
 rintro _ _ _ - ⟨rfl, g65, rfl, rfl⟩
 refine ⟨(StabL.st (StabA.of rfl (PO.loadB 4 pl3 rfl rfl rfl) rfl) (StabL.st (StabA.of rfl (PO.fieldAddr fo28_2 rfl rfl) rfl) (StabL.st (StabA.of rfl (PO.loadB 4 pl3 rfl rfl rfl) rfl) (StabL.st (StabA.of rfl (PO.fieldAddr fo28_1 rfl rfl) rfl) (StabL.st (StabA.of rfl (PO.loadB 4 pl3 rfl rfl rfl) rfl) (StabL.st (StabA.of rfl (PO.fieldAddr fo28_0 rfl rfl) rfl) trivial)))))), ?_⟩
 obtain ⟨r66, hr67, h⟩ := bnd h
 refine WT.f1 ?_
 refine WT.alt rfl (EO.call1 co44 (f_wire_Int_ok r41 a0.Serial _ _ _ hq45 r66 hr67) (args2 rfl rfl)) rfl ?_ ?_
 rintro _ M68 _ hle69 ⟨_, ⟨vq70, cq70, rfl, rfl, hq70⟩, rfl⟩
 have hq45 := hq45.mono hle69
 have h0_10 := h0_10.mono hle69
 refine ⟨(StabL.st (StabA.of rfl (PO.loadB 4 pl3 rfl rfl rfl) rfl) (StabL.st (StabA.of rfl (PO.fieldAddr fo28_2 rfl rfl) rfl) (StabL.anc rfl (StabL.anc rfl (StabL.anc rfl (StabL.anc rfl trivial)))))), ?_⟩
 refine WT.a1 ?_
 obtain ⟨r71, hr72, h⟩ := bnd h
 refine WT.alt rfl (EO.call1 co44 (f_wire_Int_ok r66 a0.Kind _ _ _ hq70 r71 hr72) (args2 rfl rfl)) rfl ?_ ?_
 rintro _ M73 _ hle74 ⟨_, ⟨vq75, cq75, rfl, rfl, hq75⟩, rfl⟩
 have hq45 := hq45.mono hle74
 have hq70 := hq70.mono hle74
 have h0_10 := h0_10.mono hle74
 refine ⟨(StabL.anc rfl (StabL.anc rfl (StabL.anc rfl (StabL.anc rfl (StabL.anc rfl (StabL.anc rfl trivial)))))), ?_⟩
 refine WT.a1 ?_
 refine WT.f1 ?_
 refine WT.alt rfl (EO.storeL (v := vq75) (vl := [vq75]) (arr' := [vq75]) hq75.cells sz22 rfl rfl (onesOf (Ones.cons (OwnS.one hq75) Ones.nil)) rfl rfl rfl) rfl ?_ ?_
 rintro _ _ _ - ⟨rfl, rfl⟩
 refine ⟨(StabL.anc rfl (StabL.anc rfl (StabL.anc rfl (StabL.anc rfl (StabL.anc rfl (StabL.anc rfl trivial)))))), ?_⟩
 refine WT.fin ?_
 refine WQ.f1 ?_
 refine WQ.f1 ?_
 refine WQ.f4 ?_
 refine WQ.f4 ?_
 refine WQ.f4 ?_
 obtain rfl := Option.some.inj h
 refine WQ.thenJ ?_
 exact ⟨g65, vq75, cq75, ((hle44.trans hle69).trans hle74), rfl, rfl, rfl, rfl, rfl, hq75⟩
 exact WT.no
 exact WT.no
 exact WT.no
 exact WT.no
 have h := hk39
 refine WT.alt rfl (EO.alloc ze22 rfl) rfl ?_ ?_
 rintro _ _ _ - ⟨rfl, g76, rfl, rfl⟩
 refine ⟨(StabL.st (StabA.of rfl (PO.loadB 4 pl3 rfl rfl rfl) rfl) (StabL.st (StabA.of rfl (PO.fieldAddr fo28_2 rfl rfl) rfl) (StabL.st (StabA.of rfl (PO.loadB 4 pl3 rfl rfl rfl) rfl) (StabL.st (StabA.of rfl (PO.fieldAddr fo28_1 rfl rfl) rfl) (StabL.st (StabA.of rfl (PO.loadB 4 pl3 rfl rfl rfl) rfl) (StabL.st (StabA.of rfl (PO.fieldAddr fo28_0 rfl rfl) rfl) trivial)))))), ?_⟩
 obtain ⟨r78, hr79, h⟩ := bnd h
 refine WT.e0 ?_
 refine WT.alt rfl (EO.call1 co44 (f_wire_Int_ok [] a0.Client _ _ _ (OwnS.nil _ _) r78 hr79) (args2 rfl rfl)) rfl ?_ ?_
 rintro _ M80 _ hle81 ⟨_, ⟨vq82, cq82, rfl, rfl, hq82⟩, rfl⟩
 have h0_10 := h0_10.mono hle81
 refine ⟨(StabL.st (StabA.of rfl (PO.loadB 5 pl3 rfl rfl rfl) rfl) (StabL.st (StabA.of rfl (PO.fieldAddr fo28_2 rfl rfl) rfl) (StabL.st (StabA.of rfl (PO.loadB 5 pl3 rfl rfl rfl) rfl) (StabL.st (StabA.of rfl (PO.fieldAddr fo28_1 rfl rfl) rfl) (StabL.anc rfl (StabL.anc rfl trivial)))))), ?_⟩
 refine WT.a1 ?_
 obtain ⟨r83, hr84, h⟩ := bnd h
 refine WT.alt rfl (EO.call1 co44 (f_wire_Int_ok r78 a0.Serial _ _ _ hq82 r83 hr84) (args2 rfl rfl)) rfl ?_ ?_
 rintro _ M85 _ hle86 ⟨_, ⟨vq87, cq87, rfl, rfl, hq87⟩, rfl⟩
 have hq82 := hq82.mono hle86
 have h0_10 := h0_10.mono hle86
 refine ⟨(StabL.st (StabA.of rfl (PO.loadB 5 pl3 rfl rfl rfl) rfl) (StabL.st (StabA.of rfl (PO.fieldAddr fo28_2 rfl rfl) rfl) (StabL.anc rfl (StabL.anc rfl (StabL.anc rfl (StabL.anc rfl trivial)))))), ?_⟩
 refine WT.a1 ?_
 obtain ⟨r88, hr89, h⟩ := bnd h
 refine WT.alt rfl (EO.call1 co44 (f_wire_Int_ok r83 a0.Kind _ _ _ hq87 r88 hr89) (args2 rfl rfl)) rfl ?_ ?_
 rintro _ M90 _ hle91 ⟨_, ⟨vq92, cq92, rfl, rfl, hq92⟩, rfl⟩
 have hq82 := hq82.mono hle91
 have hq87 := hq87.mono hle91
 have h0_10 := h0_10.mono hle91
 refine ⟨(StabL.anc rfl (StabL.anc rfl (StabL.anc rfl (StabL.anc rfl (StabL.anc rfl (StabL.anc rfl trivial)))))), ?_⟩
 refine WT.a1 ?_
 refine WT.f1 ?_
 refine WT.alt rfl (EO.storeL (v := vq92) (vl := [vq92]) (arr' := [vq92]) hq92.cells sz22 rfl rfl (onesOf (Ones.cons (OwnS.one hq92) Ones.nil)) rfl rfl rfl) rfl ?_ ?_
 rintro _ _ _ - ⟨rfl, rfl⟩
 refine ⟨(StabL.anc rfl (StabL.anc rfl (StabL.anc rfl (StabL.anc rfl (StabL.anc rfl (StabL.anc rfl trivial)))))), ?_⟩
 refine WT.fin ?_
 refine WQ.f2 ?_
 refine WQ.drop ?_
 refine WQ.f1 ?_
 refine WQ.f1 ?_
 refine WQ.f4 ?_
 refine WQ.f4 ?_
 refine WQ.f4 ?_
 obtain rfl := Option.some.inj h
 refine WQ.thenJ ?_
 exact ⟨g76, vq92, cq92, ((hle81.trans hle86).trans hle91), rfl, rfl, rfl, rfl, rfl, hq92⟩
 exact WT.no
 exact WT.no
 exact WT.no
 exact WT.no
 exact WT.no
 rintro ρ38 M38 H38 ⟨g36, vx37, cx37, hle38, rfl, hs38_1, hs38_2, hs38_5, hs38_6, hx37⟩
 have h0_10 := h0_10.mono hle38
 obtain ⟨x93, hj94, h⟩ := bnd h
 refine WC.joinF (fun (x93 : (List Int)) ρ' M' H' => ∃ vx93 cx93, M38.le M' ∧ [(g35, .cells #[(.int .i64 r30)] 3 (0, 0))] :: [(g22, .cells #[(.int .i64 0), (.slice none 0 0)] 34 (0, 0))] :: [(g21, .cells (l28 a0 v0_10).toArray 28 (0, 0))] :: [(g36, .cells #[vx93] 22 (0, 0))] :: cx93 :: F = H' ∧ ρ' 1 = (pt g21 0) ∧ ρ' 2 = (pt g22 0) ∧ ρ' 5 = (pt g35 0) ∧ ρ' 6 = (pt g36 0) ∧ OwnS (Kd.int .u8) M' vx93 x93 cx93) x93 ?_ ?_
 have h394 := h
 have h := hj94
 refine Sr ?_
 refine Pu (.int .i64 r30) (PO.loadB 0 pl3 hs38_5 rfl rfl) rfl ?_
 refine Pu (.int .i64 (andI .i64 r30 (1 : Int))) (PO.and rfl rfl) rfl ?_
 refine Pu (.bool (decide ((andI .i64 r30 (1 : Int)) ≠ 0))) (PO.neq rfl rfl) rfl ?_
 refine Nt ?_
 refine WC.cond (b := decide ((andI .i64 r30 (1 : Int)) ≠ 0)) rfl (fun hb95 => ?_) (fun hb95 => ?_)
 have h := ite_t hb95 h
 refine WC.region ?_
 refine Pu vx37 (PO.loadB 3 pl22 hs38_6 rfl rfl) rfl ?_
 refine Pu (pt g21 3) (PO.fieldAddr fo28_3 hs38_1 rfl) rfl ?_
 refine Pu (.string a0.Name) (PO.loadB 2 pl9 rfl rfl rfl) rfl ?_
 refine WL.eff (EO.s2b Tryz.underlying9 Tryz.underlying22 Tryz.underlying5 rfl) rfl ?_
 rintro v98 _ _ - ⟨rfl, c96, rfl, h97⟩
 obtain ⟨r99, hr100, h⟩ := bnd h
 refine WL.f5 ?_
 refine WL.f1 ?_
 refine WL.eff (EO.call2 co45 (Tri.lend fun w0_ H0_ hs0_ => (f_wire_Text_ok x37 (bytesOf a0.Name) _ _ _ _ (hx37.mono (IM.le_add _ _)) (h97.rs hs0_) r99 hr100)) (args2 rfl rfl)) rfl ?_
 rintro _ _ _ hle102 ⟨_, ⟨Ml104, Hl105, hll106, rfl, rfl, ⟨vq103, cq103, rfl, rfl, hq103⟩⟩, rfl⟩
 have hx37 := hx37.mono hle102
 have h97 := h97.mono hle102
 have h0_10 := h0_10.mono hle102
 have hq103 : OwnS (Kd.int .u8) (Ml104.minus c96) vq103 r99 cq103 := hq103.any (Kd.int_flat _)
 refine WL.a2 ?_
 refine WL.f5 ?_
 refine WL.eff (EO.storeL (v := vq103) (vl := [vq103]) (arr' := [vq103]) hq103.cells sz22 hs38_6 rfl (onesOf (Ones.cons (OwnS.one hq103) Ones.nil)) rfl rfl rfl) rfl ?_
 rintro _ _ _ - ⟨rfl, rfl⟩
 refine WL.nil ?_
 refine WQ.f1 ?_
 refine WQ.drop ?_
 refine WQ.f1 ?_
 refine WQ.f1 ?_
 refine WQ.f4 ?_
 refine WQ.f4 ?_
 refine WQ.f4 ?_
 obtain rfl := Option.some.inj h
 refine WQ.thenJ ?_
 exact ⟨vq103, cq103, hle102, rfl, hs38_1, hs38_2, hs38_5, hs38_6, hq103⟩
 have h := ite_f hb95 h
 refine WC.skip ?_
 obtain rfl := Option.some.inj h
 refine WQ.thenJ ?_
 exact ⟨vx37, cx37, (IM.le.refl _), rfl, hs38_1, hs38_2, hs38_5, hs38_6, hx37⟩
 rintro ρ94 M94 H94 ⟨vx93, cx93, hle94, rfl, hs94_1, hs94_2, hs94_5, hs94_6, hx93⟩
 have h0_10 := h0_10.mono hle94
 obtain ⟨x107, hj108, h⟩ := bnd h
 refine WC.joinF (fun (x107 : (List Int)) ρ' M' H' => ∃ vx107 cx107, M94.le M' ∧ [(g35, .cells #[(.int .i64 r30)] 3 (0, 0))] :: [(g22, .cells #[(.int .i64 0), (.slice none 0 0)] 34 (0, 0))] :: [(g21, .cells (l28 a0 v0_10).toArray 28 (0, 0))] :: [(g36, .cells #[vx107] 22 (0, 0))] :: cx107 :: F = H' ∧ ρ' 1 = (pt g21 0) ∧ ρ' 2 = (pt g22 0) ∧ ρ' 5 = (pt g35 0) ∧ ρ' 6 = (pt g36 0) ∧ OwnS (Kd.int .u8) M' vx107 x107 cx107) x107 ?_ ?_
 have h3108 := h
 have h := hj108
 refine Sr ?_
 refine Pu (.int .i64 r30) (PO.loadB 0 pl3 hs94_5 rfl rfl) rfl ?_
 refine Pu (.int .i64 (andI .i64 r30 (2 : Int))) (PO.and rfl rfl) rfl ?_
 refine Pu (.bool (decide ((andI .i64 r30 (2 : Int)) ≠ 0))) (PO.neq rfl rfl) rfl ?_
 refine Nt ?_
 refine WC.cond (b := decide ((andI .i64 r30 (2 : Int)) ≠ 0)) rfl (fun hb109 => ?_) (fun hb109 => ?_)
 have h := ite_t hb109 h
 refine WC.draw [0, 0, 2, 6, 15, 0, 32, 96, 255, 0, 512, 2047, 4095] (.pure 0 (.pure 1 (.pure 2 (.pure 5 (.pure 6 (.pure 9 (.pure 10 (.alt 3 (.alt 4 (.alt 7 (.alt 8 (.alt 11 (.alt 12 .done .none) .none) .none) .none) (.alt 7 (.alt 4 (.alt 8 (.alt 11 (.alt 12 .done .none) .none) .none) .none) .none)) (.alt 7 (.alt 3 (.alt 4 (.alt 8 (.alt 11 (.alt 12 .done .none) .none) .none) .none) .none) .none))))))))) mixed (by kernel_rfl) ?_
 refine Tp vx93 rfl (PO.loadB 3 pl22 hs94_6 rfl rfl) rfl ?_
 refine Tp (pt g21 4) rfl (PO.fieldAddr fo28_4 hs94_1 rfl) rfl ?_
 refine Tp (.string a0.Key) rfl (PO.loadB 2 pl9 rfl rfl rfl) rfl ?_
 refine Tp (pt g21 5) rfl (PO.fieldAddr fo28_5 hs94_1 rfl) rfl ?_
 refine Tp (.string a0.Value) rfl (PO.loadB 2 pl9 rfl rfl rfl) rfl ?_
 refine Tp (pt g21 6) rfl (PO.fieldAddr fo28_6 hs94_1 rfl) rfl ?_
 refine Tp (.bool a0.Flag) rfl (PO.loadB 2 pl4 rfl rfl rfl) rfl ?_
 have hk110 := h
 refine WT.alt rfl (EO.s2b Tryz.underlying9 Tryz.underlying22 Tryz.underlying5 rfl) rfl ?_ ?_
 rintro v113 _ _ - ⟨rfl, c111, rfl, h112⟩
 refine ⟨(StabL.st (StabA.of rfl (PO.loadB 3 pl4 rfl rfl rfl) rfl) (StabL.st (StabA.of rfl (PO.fieldAddr fo28_6 hs94_1 rfl) rfl) (StabL.st (StabA.of rfl (PO.loadB 3 pl9 rfl rfl rfl) rfl) (StabL.st (StabA.of rfl (PO.fieldAddr fo28_5 hs94_1 rfl) rfl) (StabL.anc rfl (StabL.anc rfl (StabL.st (StabA.of rfl (PO.loadB 4 pl22 hs94_6 rfl rfl) rfl) trivial))))))), ?_⟩
 have hk114 := h
 obtain ⟨r115, hr116, h⟩ := bnd h
 refine WT.f5 ?_
 refine WT.f1 ?_
 refine WT.alt rfl (EO.call2 co45 (Tri.lend fun w0_ H0_ hs0_ => (f_wire_Text_ok x93 (bytesOf a0.Key) _ _ _ _ (hx93.mono (IM.le_add _ _)) (h112.rs hs0_) r115 hr116)) (args2 rfl rfl)) rfl ?_ ?_
 rintro _ _ _ hle118 ⟨_, ⟨Ml120, Hl121, hll122, rfl, rfl, ⟨vq119, cq119, rfl, rfl, hq119⟩⟩, rfl⟩
 have hx93 := hx93.mono hle118
 have h112 := h112.mono hle118
 have h0_10 := h0_10.mono hle118
 have hq119 : OwnS (Kd.int .u8) (Ml120.minus c111) vq119 r115 cq119 := hq119.any (Kd.int_flat _)
 refine ⟨(StabL.st (StabA.of rfl (PO.loadB 4 pl4 rfl rfl rfl) rfl) (StabL.st (StabA.of rfl (PO.fieldAddr fo28_6 hs94_1 rfl) rfl) (StabL.st (StabA.of rfl (PO.loadB 4 pl9 rfl rfl rfl) rfl) (StabL.st (StabA.of rfl (PO.fieldAddr fo28_5 hs94_1 rfl) rfl) (StabL.anc rfl (StabL.anc rfl (StabL.anc rfl trivial))))))), ?_⟩
 refine WT.a2 ?_
 refine WT.alt rfl (EO.s2b Tryz.underlying9 Tryz.underlying22 Tryz.underlying5 rfl) rfl ?_ ?_
 rintro v125 _ _ - ⟨rfl, c123, rfl, h124⟩
 refine ⟨(StabL.st (StabA.of rfl (PO.loadB 5 pl4 rfl rfl rfl) rfl) (StabL.st (StabA.of rfl (PO.fieldAddr fo28_6 hs94_1 rfl) rfl) (StabL.anc rfl (StabL.anc rfl (StabL.st (StabA.of rfl (PO.loadB 5 pl9 rfl rfl rfl) rfl) (StabL.st (StabA.of rfl (PO.fieldAddr fo28_4 hs94_1 rfl) rfl) (StabL.st (StabA.of rfl (PO.loadB 6 pl22 hs94_6 rfl rfl) rfl) trivial))))))), ?_⟩
 obtain ⟨r126, hr127, h⟩ := bnd h
 refine WT.f2 ?_
 refine WT.f1 ?_
 refine WT.alt rfl (EO.call2 co45 (Tri.lend fun w0_ H0_ hs0_ => (f_wire_Text_ok r115 (bytesOf a0.Value) _ _ _ _ (hq119.mono (IM.le_add _ _)) (h124.rs hs0_) r126 hr127)) (args2 rfl rfl)) rfl ?_ ?_
 rintro _ _ _ hle129 ⟨_, ⟨Ml131, Hl132, hll133, rfl, rfl, ⟨vq130, cq130, rfl, rfl, hq130⟩⟩, rfl⟩
 have hx93 := hx93.mono hle129
 have h112 := h112.mono hle129
 have hq119 := hq119.mono hle129
 have h124 := h124.mono hle129
 have h0_10 := h0_10.mono hle129
 have hq130 : OwnS (Kd.int .u8) (Ml131.minus c123) vq130 r126 cq130 := hq130.any (Kd.int_flat _)
 refine ⟨(StabL.st (StabA.of rfl (PO.loadB 5 pl4 rfl rfl rfl) rfl) (StabL.st (StabA.of rfl (PO.fieldAddr fo28_6 hs94_1 rfl) rfl) (StabL.anc rfl (StabL.anc rfl (StabL.anc rfl (StabL.anc rfl (StabL.anc rfl trivial))))))), ?_⟩
 refine WT.a2 ?_
 obtain ⟨r134, hr135, h⟩ := bnd h
 refine WT.f1 ?_
 refine WT.alt rfl (EO.call1 co46 (f_wire_Flag_ok r126 a0.Flag _ _ _ hq130 r134 hr135) (args2 rfl rfl)) rfl ?_ ?_
 rintro _ M136 _ hle137 ⟨_, ⟨vq138, cq138, rfl, rfl, hq138⟩, rfl⟩
 have hx93 := hx93.mono hle137
 have h112 := h112.mono hle137
 have hq119 := hq119.mono hle137
 have h124 := h124.mono hle137
 have hq130 := hq130.mono hle137
 have h0_10 := h0_10.mono hle137
 refine ⟨(StabL.anc rfl (StabL.anc rfl (StabL.anc rfl (StabL.anc rfl (StabL.anc rfl (StabL.anc rfl (StabL.anc rfl trivial))))))), ?_⟩
 refine WT.a1 ?_
 refine WT.f6 ?_
 refine WT.alt rfl (EO.storeL (v := vq138) (vl := [vq138]) (arr' := [vq138]) hq138.cells sz22 hs94_6 rfl (onesOf (Ones.cons (OwnS.one hq138) Ones.nil)) rfl rfl rfl) rfl ?_ ?_
 rintro _ _ _ - ⟨rfl, rfl⟩
 refine ⟨(StabL.anc rfl (StabL.anc rfl (StabL.anc rfl (StabL.anc rfl (StabL.anc rfl (StabL.anc rfl (StabL.anc rfl trivial))))))), ?_⟩
 refine WT.fin ?_
 refine WQ.f2 ?_
 refine WQ.drop ?_
 refine WQ.f2 ?_
 refine WQ.drop ?_
 refine WQ.f1 ?_
 refine WQ.f1 ?_
 refine WQ.f4 ?_
 refine WQ.f4 ?_
 refine WQ.f4 ?_
 obtain rfl := Option.some.inj h
 refine WQ.thenJ ?_
 exact ⟨vq138, cq138, ((hle118.trans hle129).trans hle137), rfl, hs94_1, hs94_2, hs94_5, hs94_6, hq138⟩
 exact WT.no
 exact WT.no
 exact WT.no
 exact WT.no
 have h := hk114
 refine WT.alt rfl (EO.s2b Tryz.underlying9 Tryz.underlying22 Tryz.underlying5 rfl) rfl ?_ ?_
 rintro v141 _ _ - ⟨rfl, c139, rfl, h140⟩
 refine ⟨(StabL.st (StabA.of rfl (PO.loadB 5 pl4 rfl rfl rfl) rfl) (StabL.st (StabA.of rfl (PO.fieldAddr fo28_6 hs94_1 rfl) rfl) (StabL.anc rfl (StabL.anc rfl (StabL.st (StabA.of rfl (PO.loadB 5 pl9 rfl rfl rfl) rfl) (StabL.st (StabA.of rfl (PO.fieldAddr fo28_4 hs94_1 rfl) rfl) (StabL.st (StabA.of rfl (PO.loadB 6 pl22 hs94_6 rfl rfl) rfl) trivial))))))), ?_⟩
 obtain ⟨r142, hr143, h⟩ := bnd h
 refine WT.f2 ?_
 refine WT.f2 ?_
 refine WT.alt rfl (EO.call2 co45 (Tri.lend fun w0_ H0_ hs0_ => (f_wire_Text_ok x93 (bytesOf a0.Key) _ _ _ _ (hx93.mono (IM.le_add _ _)) (h112.rs hs0_) r142 hr143)) (args2 rfl rfl)) rfl ?_ ?_
 rintro _ _ _ hle145 ⟨_, ⟨Ml147, Hl148, hll149, rfl, rfl, ⟨vq146, cq146, rfl, rfl, hq146⟩⟩, rfl⟩
 have hx93 := hx93.mono hle145
 have h112 := h112.mono hle145
 have h140 := h140.mono hle145
 have h0_10 := h0_10.mono hle145
 have hq146 : OwnS (Kd.int .u8) (Ml147.minus c111) vq146 r142 cq146 := hq146.any (Kd.int_flat _)
 refine ⟨(StabL.st (StabA.of rfl (PO.loadB 5 pl4 rfl rfl rfl) rfl) (StabL.st (StabA.of rfl (PO.fieldAddr fo28_6 hs94_1 rfl) rfl) (StabL.st (StabA.of rfl (PO.loadB 5 pl9 rfl rfl rfl) rfl) (StabL.st (StabA.of rfl (PO.fieldAddr fo28_5 hs94_1 rfl) rfl) (StabL.anc rfl (StabL.anc rfl (StabL.anc rfl trivial))))))), ?_⟩
 refine WT.a2 ?_
 obtain ⟨r150, hr151, h⟩ := bnd h
 refine WT.f1 ?_
 refine WT.f2 ?_
 refine WT.alt rfl (EO.call2 co45 (Tri.lend fun w0_ H0_ hs0_ => (f_wire_Text_ok r142 (bytesOf a0.Value) _ _ _ _ (hq146.mono (IM.le_add _ _)) (h140.rs hs0_) r150 hr151)) (args2 rfl rfl)) rfl ?_ ?_
 rintro _ _ _ hle153 ⟨_, ⟨Ml155, Hl156, hll157, rfl, rfl, ⟨vq154, cq154, rfl, rfl, hq154⟩⟩, rfl⟩
 have hx93 := hx93.mono hle153
 have h112 := h112.mono hle153
 have h140 := h140.mono hle153
 have hq146 := hq146.mono hle153
 have h0_10 := h0_10.mono hle153
 have hq154 : OwnS (Kd.int .u8) (Ml155.minus c139) vq154 r150 cq154 := hq154.any (Kd.int_flat _)
 refine ⟨(StabL.st (StabA.of rfl (PO.loadB 5 pl4 rfl rfl rfl) rfl) (StabL.st (StabA.of rfl (PO.fieldAddr fo28_6 hs94_1 rfl) rfl) (StabL.anc rfl (StabL.anc rfl (StabL.anc rfl (StabL.anc rfl (StabL.anc rfl trivial))))))), ?_⟩
 refine WT.a2 ?_
 obtain ⟨r158, hr159, h⟩ := bnd h
 refine WT.f1 ?_
 refine WT.alt rfl (EO.call1 co46 (f_wire_Flag_ok r150 a0.Flag _ _ _ hq154 r158 hr159) (args2 rfl rfl)) rfl ?_ ?_
 rintro _ M160 _ hle161 ⟨_, ⟨vq162, cq162, rfl, rfl, hq162⟩, rfl⟩
 have hx93 := hx93.mono hle161
 have h112 := h112.mono hle161
 have h140 := h140.mono hle161
 have hq146 := hq146.mono hle161
 have hq154 := hq154.mono hle161
 have h0_10 := h0_10.mono hle161
 refine ⟨(StabL.anc rfl (StabL.anc rfl (StabL.anc rfl (StabL.anc rfl (StabL.anc rfl (StabL.anc rfl (StabL.anc rfl trivial))))))), ?_⟩
 refine WT.a1 ?_
 refine WT.f6 ?_
 refine WT.alt rfl (EO.storeL (v := vq162) (vl := [vq162]) (arr' := [vq162]) hq162.cells sz22 hs94_6 rfl (onesOf (Ones.cons (OwnS.one hq162) Ones.nil)) rfl rfl rfl) rfl ?_ ?_
 rintro _ _ _ - ⟨rfl, rfl⟩
 refine ⟨(StabL.anc rfl (StabL.anc rfl (StabL.anc rfl (StabL.anc rfl (StabL.anc rfl (StabL.anc rfl (StabL.anc rfl trivial))))))), ?_⟩
 refine WT.fin ?_
 refine WQ.f2 ?_
 refine WQ.drop ?_
 refine WQ.f2 ?_
 refine WQ.drop ?_
 refine WQ.f1 ?_
 refine WQ.f1 ?_
 refine WQ.f4 ?_
 refine WQ.f4 ?_
 refine WQ.f4 ?_
 obtain rfl := Option.some.inj h
 refine WQ.thenJ ?_
 exact ⟨vq162, cq162, ((hle145.trans hle153).trans hle161), rfl, hs94_1, hs94_2, hs94_5, hs94_6, hq162⟩
 exact WT.no
 exact WT.no
 exact WT.no
 exact WT.no
 exact WT.no
 have h := hk110
 refine WT.alt rfl (EO.s2b Tryz.underlying9 Tryz.underlying22 Tryz.underlying5 rfl) rfl ?_ ?_
 rintro v165 _ _ - ⟨rfl, c163, rfl, h164⟩
 refine ⟨(StabL.st (StabA.of rfl (PO.loadB 3 pl4 rfl rfl rfl) rfl) (StabL.st (StabA.of rfl (PO.fieldAddr fo28_6 hs94_1 rfl) rfl) (StabL.anc rfl (StabL.anc rfl (StabL.st (StabA.of rfl (PO.loadB 3 pl9 rfl rfl rfl) rfl) (StabL.st (StabA.of rfl (PO.fieldAddr fo28_4 hs94_1 rfl) rfl) (StabL.st (StabA.of rfl (PO.loadB 4 pl22 hs94_6 rfl rfl) rfl) trivial))))))), ?_⟩
 refine WT.alt rfl (EO.s2b Tryz.underlying9 Tryz.underlying22 Tryz.underlying5 rfl) rfl ?_ ?_
 rintro v168 _ _ - ⟨rfl, c166, rfl, h167⟩
 refine ⟨(StabL.st (StabA.of rfl (PO.loadB 4 pl4 rfl rfl rfl) rfl) (StabL.st (StabA.of rfl (PO.fieldAddr fo28_6 hs94_1 rfl) rfl) (StabL.st (StabA.of rfl (PO.loadB 4 pl9 rfl rfl rfl) rfl) (StabL.st (StabA.of rfl (PO.fieldAddr fo28_5 hs94_1 rfl) rfl) (StabL.anc rfl (StabL.anc rfl (StabL.st (StabA.of rfl (PO.loadB 5 pl22 hs94_6 rfl rfl) rfl) trivial))))))), ?_⟩
 obtain ⟨r169, hr170, h⟩ := bnd h
 refine WT.f6 ?_
 refine WT.f1 ?_
 refine WT.alt rfl (EO.call2 co45 (Tri.lend fun w0_ H0_ hs0_ => (f_wire_Text_ok x93 (bytesOf a0.Key) _ _ _ _ (hx93.mono (IM.le_add _ _)) (h167.rs hs0_) r169 hr170)) (args2 rfl rfl)) rfl ?_ ?_
 rintro _ _ _ hle172 ⟨_, ⟨Ml174, Hl175, hll176, rfl, rfl, ⟨vq173, cq173, rfl, rfl, hq173⟩⟩, rfl⟩
 have hx93 := hx93.mono hle172
 have h164 := h164.mono hle172
 have h167 := h167.mono hle172
 have h0_10 := h0_10.mono hle172
 have hq173 : OwnS (Kd.int .u8) (Ml174.minus c166) vq173 r169 cq173 := hq173.any (Kd.int_flat _)
 refine ⟨(StabL.st (StabA.of rfl (PO.loadB 5 pl4 rfl rfl rfl) rfl) (StabL.st (StabA.of rfl (PO.fieldAddr fo28_6 hs94_1 rfl) rfl) (StabL.st (StabA.of rfl (PO.loadB 5 pl9 rfl rfl rfl) rfl) (StabL.st (StabA.of rfl (PO.fieldAddr fo28_5 hs94_1 rfl) rfl) (StabL.anc rfl (StabL.anc rfl (StabL.anc rfl trivial))))))), ?_⟩
 refine WT.a2 ?_
 obtain ⟨r177, hr178, h⟩ := bnd h
 refine WT.f1 ?_
 refine WT.f2 ?_
 refine WT.alt rfl (EO.call2 co45 (Tri.lend fun w0_ H0_ hs0_ => (f_wire_Text_ok r169 (bytesOf a0.Value) _ _ _ _ (hq173.mono (IM.le_add _ _)) (h164.rs hs0_) r177 hr178)) (args2 rfl rfl)) rfl ?_ ?_
 rintro _ _ _ hle180 ⟨_, ⟨Ml182, Hl183, hll184, rfl, rfl, ⟨vq181, cq181, rfl, rfl, hq181⟩⟩, rfl⟩
 have hx93 := hx93.mono hle180
 have h164 := h164.mono hle180
 have h167 := h167.mono hle180
 have hq173 := hq173.mono hle180
 have h0_10 := h0_10.mono hle180
 have hq181 : OwnS (Kd.int .u8) (Ml182.minus c163) vq181 r177 cq181 := hq181.any (Kd.int_flat _)
 refine ⟨(StabL.st (StabA.of rfl (PO.loadB 5 pl4 rfl rfl rfl) rfl) (StabL.st (StabA.of rfl (PO.fieldAddr fo28_6 hs94_1 rfl) rfl) (StabL.anc rfl (StabL.anc rfl (StabL.anc rfl (StabL.anc rfl (StabL.anc rfl trivial))))))), ?_⟩
 refine WT.a2 ?_
 obtain ⟨r185, hr186, h⟩ := bnd h
 refine WT.f1 ?_
 refine WT.alt rfl (EO.call1 co46 (f_wire_Flag_ok r177 a0.Flag _ _ _ hq181 r185 hr186) (args2 rfl rfl)) rfl ?_ ?_
 rintro _ M187 _ hle188 ⟨_, ⟨vq189, cq189, rfl, rfl, hq189⟩, rfl⟩
 have hx93 := hx93.mono hle188
 have h164 := h164.mono hle188
 have h167 := h167.mono hle188
 have hq173 := hq173.mono hle188
 have hq181 := hq181.mono hle188
 have h0_10 := h0_10.mono hle188
 refine ⟨(StabL.anc rfl (StabL.anc rfl (StabL.anc rfl (StabL.anc rfl (StabL.anc rfl (StabL.anc rfl (StabL.anc rfl trivial))))))), ?_⟩
 refine WT.a1 ?_
 refine WT.f6 ?_
 refine WT.alt rfl (EO.storeL (v := vq189) (vl := [vq189]) (arr' := [vq189]) hq189.cells sz22 hs94_6 rfl (onesOf (Ones.cons (OwnS.one hq189) Ones.nil)) rfl rfl rfl) rfl ?_ ?_
 rintro _ _ _ - ⟨rfl, rfl⟩
 refine ⟨(StabL.anc rfl (StabL.anc rfl (StabL.anc rfl (StabL.anc rfl (StabL.anc rfl (StabL.anc rfl (StabL.anc rfl trivial))))))), ?_⟩
 refine WT.fin ?_
 refine WQ.f2 ?_
 refine WQ.drop ?_
 refine WQ.f2 ?_
 refine WQ.drop ?_
 refine WQ.f1 ?_
 refine WQ.f1 ?_
 refine WQ.f4 ?_
 refine WQ.f4 ?_
 refine WQ.f4 ?_
 obtain rfl := Option.some.inj h
 refine WQ.thenJ ?_
 exact ⟨vq189, cq189, ((hle172.trans hle180).trans hle188), rfl, hs94_1, hs94_2, hs94_5, hs94_6, hq189⟩
 exact WT.no
 exact WT.no
 exact WT.no
 exact WT.no
 exact WT.no
 exact WT.no
 have h := ite_f hb109 h
 refine WC.skip ?_
 obtain rfl := Option.some.inj h
 refine WQ.thenJ ?_
 exact ⟨vx93, cx93, (IM.le.refl _), rfl, hs94_1, hs94_2, hs94_5, hs94_6, hx93⟩
 rintro ρ108 M108 H108 ⟨vx107, cx107, hle108, rfl, hs108_1, hs108_2, hs108_5, hs108_6, hx107⟩
 have h0_10 := h0_10.mono hle108
 refine Sr ?_
 refine Pu (.func (.func 47) #[] #[(pt g35 0), (pt g36 0)]) (PO.makeFunc2 (args0) (args2 (asE (Value.pointer (some ⟨g35, 0, none⟩)) hs108_5) (asE (Value.pointer (some ⟨g36, 0, none⟩)) hs108_6))) rfl ?_
 refine Pa (.func (.func 47) #[] #[(pt g35 0), (pt g36 0)]) rfl rfl ?_
 refine Ns ?_
 refine Pm (.func (.func 47) #[] #[(pt g35 0), (pt g36 0)]) rfl rfl ?_
 refine Pu (pt g21 7) (PO.fieldAddr fo28_7 hs108_1 rfl) rfl ?_
 refine Pu (.int .i64 a0.Parts) (PO.loadB 2 pl3 rfl rfl rfl) rfl ?_
 obtain ⟨r190, hr191, h⟩ := bnd h
 refine WL.f4 ?_
 refine WL.f4 ?_
 refine WL.f2 ?_
 refine WL.eff (EO.callV3 (first := #[]) (cap := #[(pt g35 0), (pt g36 0)]) co47 rfl (f_ask_Put_1_ok (4 : Int) a0.Parts r30 x107 _ _ _ _ _ hx107 r190 hr191) (argsV2 rfl rfl rfl)) rfl ?_
 rintro _ M192 _ hle193 ⟨_, ⟨v194, c196, rfl, rfl, h195⟩, rfl⟩
 have h0_10 := h0_10.mono hle193
 have hx107 := hx107.mono hle193
 refine WL.a3 ?_
 refine Ns ?_
 refine Pm (.func (.func 47) #[] #[(pt g35 0), (pt g36 0)]) rfl rfl ?_
 refine Pu (pt g21 8) (PO.fieldAddr fo28_8 hs108_1 rfl) rfl ?_
 refine Pu (.int .i64 a0.Replicas) (PO.loadB 4 pl3 rfl rfl rfl) rfl ?_
 obtain ⟨r197, hr198, h⟩ := bnd h
 refine WL.f2 ?_
 refine WL.f2 ?_
 refine WL.f2 ?_
 refine WL.eff (EO.callV3 (first := #[]) (cap := #[(pt g35 0), (pt g36 0)]) co47 rfl (f_ask_Put_1_ok (8 : Int) a0.Replicas r30 r190 _ _ _ _ _ h195 r197 hr198) (argsV2 rfl rfl rfl)) rfl ?_
 rintro _ M199 _ hle200 ⟨_, ⟨v201, c203, rfl, rfl, h202⟩, rfl⟩
 have h0_10 := h0_10.mono hle200
 have h195 := h195.mono hle200
 refine WL.a3 ?_
 refine Ns ?_
 refine Pm (.func (.func 47) #[] #[(pt g35 0), (pt g36 0)]) rfl rfl ?_
 refine Pu (pt g21 9) (PO.fieldAddr fo28_9 hs108_1 rfl) rfl ?_
 refine Pu (.int .i64 a0.Part) (PO.loadB 4 pl3 rfl rfl rfl) rfl ?_
 obtain ⟨r204, hr205, h⟩ := bnd h
 refine WL.f2 ?_
 refine WL.f2 ?_
 refine WL.f2 ?_
 refine WL.eff (EO.callV3 (first := #[]) (cap := #[(pt g35 0), (pt g36 0)]) co47 rfl (f_ask_Put_1_ok (16 : Int) a0.Part r30 r197 _ _ _ _ _ h202 r204 hr205) (argsV2 rfl rfl rfl)) rfl ?_
 rintro _ M206 _ hle207 ⟨_, ⟨v208, c210, rfl, rfl, h209⟩, rfl⟩
 have h0_10 := h0_10.mono hle207
 have h202 := h202.mono hle207
 refine WL.a3 ?_
 refine Ns ?_
 refine Pm (.func (.func 47) #[] #[(pt g35 0), (pt g36 0)]) rfl rfl ?_
 refine Pu (pt g21 11) (PO.fieldAddr fo28_11 hs108_1 rfl) rfl ?_
 refine Pu (.int .i64 a0.Broker) (PO.loadB 4 pl3 rfl rfl rfl) rfl ?_
 obtain ⟨r211, hr212, h⟩ := bnd h
 refine WL.f2 ?_
 refine WL.f2 ?_
 refine WL.f2 ?_
 refine WL.eff (EO.callV3 (first := #[]) (cap := #[(pt g35 0), (pt g36 0)]) co47 rfl (f_ask_Put_1_ok (64 : Int) a0.Broker r30 r204 _ _ _ _ _ h209 r211 hr212) (argsV2 rfl rfl rfl)) rfl ?_
 rintro _ M213 _ hle214 ⟨_, ⟨v215, c217, rfl, rfl, h216⟩, rfl⟩
 have h0_10 := h0_10.mono hle214
 have h209 := h209.mono hle214
 refine WL.a3 ?_
 refine Ns ?_
 refine Pm (.func (.func 47) #[] #[(pt g35 0), (pt g36 0)]) rfl rfl ?_
 refine Pu (pt g21 12) (PO.fieldAddr fo28_12 hs108_1 rfl) rfl ?_
 refine Pu (.int .i64 a0.Epoch) (PO.loadB 4 pl3 rfl rfl rfl) rfl ?_
 obtain ⟨r218, hr219, h⟩ := bnd h
 refine WL.f2 ?_
 refine WL.f2 ?_
 refine WL.f2 ?_
 refine WL.eff (EO.callV3 (first := #[]) (cap := #[(pt g35 0), (pt g36 0)]) co47 rfl (f_ask_Put_1_ok (128 : Int) a0.Epoch r30 r211 _ _ _ _ _ h216 r218 hr219) (argsV2 rfl rfl rfl)) rfl ?_
 rintro _ M220 _ hle221 ⟨_, ⟨v222, c224, rfl, rfl, h223⟩, rfl⟩
 have h0_10 := h0_10.mono hle221
 have h216 := h216.mono hle221
 refine WL.a3 ?_
 refine Nt ?_
 obtain ⟨x225, hj226, h⟩ := bnd h
 refine WC.joinF (fun (x225 : (List Int)) ρ' M' H' => ∃ vx225 cx225, M220.le M' ∧ [(g35, .cells #[(.int .i64 r30)] 3 (0, 0))] :: [(g36, .cells #[vx225] 22 (0, 0))] :: [(g22, .cells #[(.int .i64 0), (.slice none 0 0)] 34 (0, 0))] :: [(g21, .cells (l28 a0 v0_10).toArray 28 (0, 0))] :: cx225 :: F = H' ∧ ρ' 1 = (pt g21 0) ∧ ρ' 2 = (pt g22 0) ∧ ρ' 5 = (pt g35 0) ∧ ρ' 6 = (pt g36 0) ∧ OwnS (Kd.int .u8) M' vx225 x225 cx225) x225 ?_ ?_
 have h3226 := h
 have h := hj226
 refine Sr ?_
 refine Pu (.int .i64 r30) (PO.loadB 0 pl3 hs108_5 rfl rfl) rfl ?_
 refine Pu (.int .i64 (andI .i64 r30 (32 : Int))) (PO.and rfl rfl) rfl ?_
 refine Pu (.bool (decide ((andI .i64 r30 (32 : Int)) ≠ 0))) (PO.neq rfl rfl) rfl ?_
 refine Nt ?_
 refine WC.cond (b := decide ((andI .i64 r30 (32 : Int)) ≠ 0)) rfl (fun hb227 => ?_) (fun hb227 => ?_)
 have h := ite_t hb227 h
 refine WC.region ?_
 refine Pu v222 (PO.loadB 1 pl22 hs108_6 rfl rfl) rfl ?_
 refine Pu (pt g21 10) (PO.fieldAddr fo28_10 hs108_1 rfl) rfl ?_
 refine Pu v0_10 (PO.loadB 4 pl24 rfl rfl rfl) rfl ?_
 obtain ⟨r228, hr229, h⟩ := bnd h
 refine WL.f2 ?_
 refine WL.eff (EO.call1 co48 (f_wire_Row_ok r218 a0.Ids _ _ _ _ h223 h0_10 r228 hr229) (args2 rfl rfl)) rfl ?_
 rintro _ M230 _ hle231 ⟨_, ⟨vq232, cq232, rfl, rfl, hq232⟩, rfl⟩
 have h223 := h223.mono hle231
 have h0_10 := h0_10.mono hle231
 refine WL.a1 ?_
 refine WL.f2 ?_
 refine WL.eff (EO.storeL (v := vq232) (vl := [vq232]) (arr' := [vq232]) hq232.cells sz22 hs108_6 rfl (onesOf (Ones.cons (OwnS.one hq232) Ones.nil)) rfl rfl rfl) rfl ?_
 rintro _ _ _ - ⟨rfl, rfl⟩
 refine WL.nil ?_
 refine WQ.f1 ?_
 refine WQ.f4 ?_
 refine WQ.f4 ?_
 refine WQ.f3 ?_
 refine WQ.f4 ?_
 obtain rfl := Option.some.inj h
 refine WQ.thenJ ?_
 exact ⟨vq232, cq232, hle231, rfl, hs108_1, hs108_2, hs108_5, hs108_6, hq232⟩
 have h := ite_f hb227 h
 refine WC.skip ?_
 refine WQ.f2 ?_
 refine WQ.f4 ?_
 refine WQ.f4 ?_
 refine WQ.f4 ?_
 refine WQ.f4 ?_
 obtain rfl := Option.some.inj h
 refine WQ.thenJ ?_
 exact ⟨v222, c224, (IM.le.refl _), rfl, hs108_1, hs108_2, hs108_5, hs108_6, h223⟩
 rintro ρ226 M226 H226 ⟨vx225, cx225, hle226, rfl, hs226_1, hs226_2, hs226_5, hs226_6, hx225⟩
 have h0_10 := h0_10.mono hle226
 obtain ⟨x233, hj234, h⟩ := bnd h
 refine WC.joinF (fun (x233 : (List Int)) ρ' M' H' => ∃ vx233 cx233, M226.le M' ∧ [(g35, .cells #[(.int .i64 r30)] 3 (0, 0))] :: [(g36, .cells #[vx233] 22 (0, 0))] :: [(g22, .cells #[(.int .i64 0), (.slice none 0 0)] 34 (0, 0))] :: [(g21, .cells (l28 a0 v0_10).toArray 28 (0, 0))] :: cx233 :: F = H' ∧ ρ' 1 = (pt g21 0) ∧ ρ' 2 = (pt g22 0) ∧ ρ' 5 = (pt g35 0) ∧ ρ' 6 = (pt g36 0) ∧ OwnS (Kd.int .u8) M' vx233 x233 cx233) x233 ?_ ?_
 have h3234 := h
 have h := hj234
 refine Sr ?_
 refine Pu (.int .i64 r30) (PO.loadB 0 pl3 hs226_5 rfl rfl) rfl ?_
 refine Pu (.int .i64 (andI .i64 r30 (256 : Int))) (PO.and rfl rfl) rfl ?_
 refine Pu (.bool (decide ((andI .i64 r30 (256 : Int)) ≠ 0))) (PO.neq rfl rfl) rfl ?_
 refine Nt ?_
 refine WC.cond (b := decide ((andI .i64 r30 (256 : Int)) ≠ 0)) rfl (fun hb235 => ?_) (fun hb235 => ?_)
 have h := ite_t hb235 h
 refine WC.region ?_
 refine Pu vx225 (PO.loadB 1 pl22 hs226_6 rfl rfl) rfl ?_
 refine Pu (pt g21 13) (PO.fieldAddr fo28_13 hs226_1 rfl) rfl ?_
 refine Pu (.string a0.Rack) (PO.loadB 3 pl9 rfl rfl rfl) rfl ?_
 refine WL.eff (EO.s2b Tryz.underlying9 Tryz.underlying22 Tryz.underlying5 rfl) rfl ?_
 rintro v238 _ _ - ⟨rfl, c236, rfl, h237⟩
 obtain ⟨r239, hr240, h⟩ := bnd h
 refine WL.f5 ?_
 refine WL.f1 ?_
 refine WL.eff (EO.call2 co45 (Tri.lend fun w0_ H0_ hs0_ => (f_wire_Text_ok x225 (bytesOf a0.Rack) _ _ _ _ (hx225.mono (IM.le_add _ _)) (h237.rs hs0_) r239 hr240)) (args2 rfl rfl)) rfl ?_
 rintro _ _ _ hle242 ⟨_, ⟨Ml244, Hl245, hll246, rfl, rfl, ⟨vq243, cq243, rfl, rfl, hq243⟩⟩, rfl⟩
 have hx225 := hx225.mono hle242
 have h237 := h237.mono hle242
 have h0_10 := h0_10.mono hle242
 have hq243 : OwnS (Kd.int .u8) (Ml244.minus c236) vq243 r239 cq243 := hq243.any (Kd.int_flat _)
 refine WL.a2 ?_
 refine WL.f3 ?_
 refine WL.eff (EO.storeL (v := vq243) (vl := [vq243]) (arr' := [vq243]) hq243.cells sz22 hs226_6 rfl (onesOf (Ones.cons (OwnS.one hq243) Ones.nil)) rfl rfl rfl) rfl ?_
 rintro _ _ _ - ⟨rfl, rfl⟩
 refine WL.nil ?_
 refine WQ.f1 ?_
 refine WQ.drop ?_
 refine WQ.f1 ?_
 refine WQ.f4 ?_
 refine WQ.f4 ?_
 refine WQ.f3 ?_
 refine WQ.f4 ?_
 obtain rfl := Option.some.inj h
 refine WQ.thenJ ?_
 exact ⟨vq243, cq243, hle242, rfl, hs226_1, hs226_2, hs226_5, hs226_6, hq243⟩
 have h := ite_f hb235 h
 refine WC.skip ?_
 obtain rfl := Option.some.inj h
 refine WQ.thenJ ?_
 exact ⟨vx225, cx225, (IM.le.refl _), rfl, hs226_1, hs226_2, hs226_5, hs226_6, hx225⟩
 rintro ρ234 M234 H234 ⟨vx233, cx233, hle234, rfl, hs234_1, hs234_2, hs234_5, hs234_6, hx233⟩
 have h0_10 := h0_10.mono hle234
 obtain ⟨x247, hj248, h⟩ := bnd h
 refine WC.joinF (fun (x247 : (List Int)) ρ' M' H' => ∃ vx247 cx247, M234.le M' ∧ [(g35, .cells #[(.int .i64 r30)] 3 (0, 0))] :: [(g36, .cells #[vx247] 22 (0, 0))] :: [(g22, .cells #[(.int .i64 0), (.slice none 0 0)] 34 (0, 0))] :: [(g21, .cells (l28 a0 v0_10).toArray 28 (0, 0))] :: cx247 :: F = H' ∧ ρ' 2 = (pt g22 0) ∧ ρ' 6 = (pt g36 0) ∧ OwnS (Kd.int .u8) M' vx247 x247 cx247) x247 ?_ ?_
 have h3248 := h
 have h := hj248
 refine Sr ?_
 refine Pu (.int .i64 r30) (PO.loadB 0 pl3 hs234_5 rfl rfl) rfl ?_
 refine Pu (.int .i64 (andI .i64 r30 (512 : Int))) (PO.and rfl rfl) rfl ?_
 refine Pu (.bool (decide ((andI .i64 r30 (512 : Int)) ≠ 0))) (PO.neq rfl rfl) rfl ?_
 refine Nt ?_
 refine WC.cond (b := decide ((andI .i64 r30 (512 : Int)) ≠ 0)) rfl (fun hb249 => ?_) (fun hb249 => ?_)
 have h := ite_t hb249 h
 refine Sr ?_
 refine Pu (pt g21 14) (PO.fieldAddr fo28_14 hs234_1 rfl) rfl ?_
 refine Pu (a26_ a0.Word) (PO.loadBA (cs := (l26 a0.Word)) 3 ag26 sz26 rfl rfl rfl) rfl ?_
 refine WL.eff (EO.alloc ze26 rfl) rfl ?_
 rintro _ _ _ - ⟨rfl, g250, rfl, rfl⟩
 refine WL.eff (EO.storeL (v := (a26_ a0.Word)) (vl := (l26 a0.Word)) (arr' := (l26 a0.Word)) rfl sz26 rfl rfl (onesOf (Ones.cons rfl (Ones.cons rfl (Ones.cons rfl (Ones.cons rfl (Ones.cons rfl Ones.nil)))))) rfl rfl rfl) rfl ?_
 rintro _ _ _ - ⟨rfl, rfl⟩
 refine Nt ?_
 refine WC.seq ?_
 refine WC.draw [0, 0, 2, 7, 0, 16, 63, 0, 128, 511, 1023] (.pure 0 (.pure 1 (.pure 2 (.pure 4 (.pure 5 (.pure 7 (.pure 8 (.alt 3 (.alt 6 (.alt 9 (.alt 10 .done .none) .none) .none) .none)))))))) mixed (by kernel_rfl) ?_
 refine Tp vx233 rfl (PO.loadB 2 pl22 hs234_6 rfl rfl) rfl ?_
 refine Tp (pt g250 0) rfl (PO.fieldAddr fo26_0 rfl rfl) rfl ?_
 refine Tp (.int .i64 a0.Word.Broker) rfl (PO.loadB 0 pl3 rfl rfl rfl) rfl ?_
 refine Tp (pt g250 1) rfl (PO.fieldAddr fo26_1 rfl rfl) rfl ?_
 refine Tp (.int .i64 a0.Word.Epoch) rfl (PO.loadB 0 pl3 rfl rfl rfl) rfl ?_
 refine Tp (pt g250 2) rfl (PO.fieldAddr fo26_2 rfl rfl) rfl ?_
 refine Tp (.int .i64 a0.Word.High) rfl (PO.loadB 0 pl3 rfl rfl rfl) rfl ?_
 obtain ⟨r251, hr252, h⟩ := bnd h
 refine WT.f5 ?_
 refine WT.alt rfl (EO.call1 co44 (f_wire_Int_ok x233 a0.Word.Broker _ _ _ hx233 r251 hr252) (args2 rfl rfl)) rfl ?_ ?_
 rintro _ M253 _ hle254 ⟨_, ⟨vq255, cq255, rfl, rfl, hq255⟩, rfl⟩
 have hx233 := hx233.mono hle254
 have h0_10 := h0_10.mono hle254
 refine ⟨(StabL.st (StabA.of rfl (PO.loadB 1 pl3 rfl rfl rfl) rfl) (StabL.st (StabA.of rfl (PO.fieldAddr fo26_2 rfl rfl) rfl) (StabL.st (StabA.of rfl (PO.loadB 1 pl3 rfl rfl rfl) rfl) (StabL.st (StabA.of rfl (PO.fieldAddr fo26_1 rfl rfl) rfl) (StabL.anc rfl (StabL.anc rfl (StabL.anc rfl trivial))))))), ?_⟩
 refine WT.a1 ?_
 obtain ⟨r256, hr257, h⟩ := bnd h
 refine WT.alt rfl (EO.call1 co44 (f_wire_Int_ok r251 a0.Word.Epoch _ _ _ hq255 r256 hr257) (args2 rfl rfl)) rfl ?_ ?_
 rintro _ M258 _ hle259 ⟨_, ⟨vq260, cq260, rfl, rfl, hq260⟩, rfl⟩
 have hx233 := hx233.mono hle259
 have hq255 := hq255.mono hle259
 have h0_10 := h0_10.mono hle259
 refine ⟨(StabL.st (StabA.of rfl (PO.loadB 1 pl3 rfl rfl rfl) rfl) (StabL.st (StabA.of rfl (PO.fieldAddr fo26_2 rfl rfl) rfl) (StabL.anc rfl (StabL.anc rfl (StabL.anc rfl (StabL.anc rfl (StabL.anc rfl trivial))))))), ?_⟩
 refine WT.a1 ?_
 obtain ⟨r261, hr262, h⟩ := bnd h
 refine WT.alt rfl (EO.call1 co44 (f_wire_Int_ok r256 a0.Word.High _ _ _ hq260 r261 hr262) (args2 rfl rfl)) rfl ?_ ?_
 rintro _ M263 _ hle264 ⟨_, ⟨vq265, cq265, rfl, rfl, hq265⟩, rfl⟩
 have hx233 := hx233.mono hle264
 have hq255 := hq255.mono hle264
 have hq260 := hq260.mono hle264
 have h0_10 := h0_10.mono hle264
 refine ⟨(StabL.anc rfl (StabL.anc rfl (StabL.anc rfl (StabL.anc rfl (StabL.anc rfl (StabL.anc rfl (StabL.anc rfl trivial))))))), ?_⟩
 refine WT.a1 ?_
 refine WT.f3 ?_
 refine WT.alt rfl (EO.storeL (v := vq265) (vl := [vq265]) (arr' := [vq265]) hq265.cells sz22 hs234_6 rfl (onesOf (Ones.cons (OwnS.one hq265) Ones.nil)) rfl rfl rfl) rfl ?_ ?_
 rintro _ _ _ - ⟨rfl, rfl⟩
 refine ⟨(StabL.anc rfl (StabL.anc rfl (StabL.anc rfl (StabL.anc rfl (StabL.anc rfl (StabL.anc rfl (StabL.anc rfl trivial))))))), ?_⟩
 refine WT.fin ?_
 refine WQ.thenC ?_
 refine WC.draw [0, 0, 2, 7, 0, 16, 63, 127] (.pure 0 (.pure 1 (.pure 2 (.pure 4 (.pure 5 (.alt 3 (.alt 6 (.alt 7 .done .none) .none) .none)))))) mixed (by kernel_rfl) ?_
 refine Tp vq265 rfl (PO.loadB 0 pl22 hs234_6 rfl rfl) rfl ?_
 refine Tp (pt g250 3) rfl (PO.fieldAddr fo26_3 rfl rfl) rfl ?_
 refine Tp (.bool a0.Word.Fence) rfl (PO.loadB 2 pl4 rfl rfl rfl) rfl ?_
 refine Tp (pt g250 4) rfl (PO.fieldAddr fo26_4 rfl rfl) rfl ?_
 refine Tp (.bool a0.Word.Leave) rfl (PO.loadB 2 pl4 rfl rfl rfl) rfl ?_
 obtain ⟨r266, hr267, h⟩ := bnd h
 refine WT.f1 ?_
 refine WT.alt rfl (EO.call1 co46 (f_wire_Flag_ok r261 a0.Word.Fence _ _ _ hq265 r266 hr267) (args2 rfl rfl)) rfl ?_ ?_
 rintro _ M268 _ hle269 ⟨_, ⟨vq270, cq270, rfl, rfl, hq270⟩, rfl⟩
 have hq265 := hq265.mono hle269
 have h0_10 := h0_10.mono hle269
 refine ⟨(StabL.st (StabA.of rfl (PO.loadB 2 pl4 rfl rfl rfl) rfl) (StabL.st (StabA.of rfl (PO.fieldAddr fo26_4 rfl rfl) rfl) (StabL.anc rfl (StabL.anc rfl (StabL.anc rfl trivial))))), ?_⟩
 refine WT.a1 ?_
 obtain ⟨r271, hr272, h⟩ := bnd h
 refine WT.alt rfl (EO.call1 co46 (f_wire_Flag_ok r266 a0.Word.Leave _ _ _ hq270 r271 hr272) (args2 rfl rfl)) rfl ?_ ?_
 rintro _ M273 _ hle274 ⟨_, ⟨vq275, cq275, rfl, rfl, hq275⟩, rfl⟩
 have hq265 := hq265.mono hle274
 have hq270 := hq270.mono hle274
 have h0_10 := h0_10.mono hle274
 refine ⟨(StabL.anc rfl (StabL.anc rfl (StabL.anc rfl (StabL.anc rfl (StabL.anc rfl trivial))))), ?_⟩
 refine WT.a1 ?_
 refine WT.f1 ?_
 refine WT.alt rfl (EO.storeL (v := vq275) (vl := [vq275]) (arr' := [vq275]) hq275.cells sz22 hs234_6 rfl (onesOf (Ones.cons (OwnS.one hq275) Ones.nil)) rfl rfl rfl) rfl ?_ ?_
 rintro _ _ _ - ⟨rfl, rfl⟩
 refine ⟨(StabL.anc rfl (StabL.anc rfl (StabL.anc rfl (StabL.anc rfl (StabL.anc rfl trivial))))), ?_⟩
 refine WT.fin ?_
 refine WQ.f2 ?_
 refine WQ.drop ?_
 refine WQ.f1 ?_
 refine WQ.f4 ?_
 refine WQ.f4 ?_
 refine WQ.f3 ?_
 refine WQ.f4 ?_
 obtain rfl := Option.some.inj h
 refine WQ.thenJ ?_
 exact ⟨vq275, cq275, ((((hle254.trans hle259).trans hle264).trans hle269).trans hle274), rfl, hs234_2, hs234_6, hq275⟩
 exact WT.no
 exact WT.no
 exact WT.no
 exact WT.no
 exact WT.no
 exact WT.no
 exact WT.no
 have h := ite_f hb249 h
 refine WC.skip ?_
 obtain rfl := Option.some.inj h
 refine WQ.thenJ ?_
 exact ⟨vx233, cx233, (IM.le.refl _), rfl, hs234_2, hs234_6, hx233⟩
 rintro ρ248 M248 H248 ⟨vx247, cx247, hle248, rfl, hs248_2, hs248_6, hx247⟩
 have h0_10 := h0_10.mono hle248
 refine Sr ?_
 refine Pu vx247 (PO.loadB 1 pl22 hs248_6 rfl rfl) rfl ?_
 refine Pu (.agg #[(.int .i64 16), vx247]) (PO.buildL (cl := [(.int .i64 16), vx247]) ze34 fp34 (Parts.cons (congrArg Value.cells (show ev _ _ = (.int .i64 16) from rfl)) (Parts.cons ((congrArg Value.cells (show ev _ _ = vx247 from rfl)).trans hx247.cells) Parts.nil)) rfl) rfl ?_
 refine WL.f2 ?_
 refine WL.eff (EO.storeL (v := (.agg #[(.int .i64 16), vx247])) (vl := [(.int .i64 16), vx247]) (arr' := [(.int .i64 16), vx247]) rfl sz34 hs248_2 rfl (onesOf (Ones.cons rfl (Ones.cons (OwnS.one hx247) Ones.nil))) rfl rfl rfl) rfl ?_
 rintro _ _ _ - ⟨rfl, rfl⟩
 refine Pa (GV GErr.nil) rfl rfl ?_
 refine Nt ?_
 refine WC.ret ?_
 refine WQ.f1 ?_
 refine WQ.drop ?_
 refine WQ.f1 ?_
 refine WQ.drop ?_
 refine WQ.f1 ?_
 refine WQ.drop ?_
 exact WQ.returnsD h [cx247] (fun _ hs => hs.drop) (resultsLN rfl (RVs.cons (RV.cellA (cs := [(.int .i64 16), vx247]) 0 ag34 sz34 hs248_2 rfl rfl) (RVs.cons (RV.tmp rfl) RVs.nil))) ((((((((((((hle26.trans hle33).trans hle38).trans hle94).trans hle108).trans hle193).trans hle200).trans hle207).trans hle214).trans hle221).trans hle226).trans hle234).trans hle248) ⟨vx247, cx247, rfl, rfl, hx247⟩

noncomputable def f_wire_Read (a0 : (List Int)) : Option T_wire_Reader :=
  (some (⟨a0, (0 : Int), GErr.nil⟩ : T_wire_Reader))
def f_wire_Read_post (a0 : (List Int)) (v0 : Value) : T_wire_Reader → Value → IM → HL → Prop :=
  fun (r0 : T_wire_Reader) (v : Value) (M' : IM) (H' : HL) => ∃ b0 vq0_0, (.pointer (some ⟨b0, 0, none⟩)) = v ∧ H' = [[(b0, .cells #[vq0_0, (.int .i64 r0.at_), (GV r0.err)] 100 (0, 0))]] ∧ RS (Kd.int .u8) M' vq0_0 r0.b
theorem f_wire_Read_ok (a0 : (List Int)) (M : IM) (v0 : Value) (h0 : RS (Kd.int .u8) M v0 a0) (res : T_wire_Reader) (h : f_wire_Read a0 = some res) :
    Tri Tryz.prog 18 #[v0] M [] (f_wire_Read_post a0 v0 res) := by
 unfold f_wire_Read at h
 refine Tri.enter (fn := Tryz.f18) Tryz.func18 rfl (Nat.le_of_ble_eq_true rfl) ?_
 intro F ρ hρ
 refine Sr ?_
 refine Pa (.pointer none) rfl rfl ?_
 refine Ns ?_
 refine Pm v0 (hρ 0) rfl ?_
 refine Pu (.agg #[v0, (.int .i64 0), (GV GErr.nil)]) (PO.buildL (cl := [v0, (.int .i64 0), (GV GErr.nil)]) ze100 fp100 (Parts.cons ((congrArg Value.cells (show ev _ _ = v0 from rfl)).trans h0.cells) Parts.nil) rfl) rfl ?_
 refine WL.eff (EO.box (cs := #[v0, (.int .i64 0), (GV GErr.nil)]) (congrArg Value.cells (show ev _ _ = (.agg #[v0, (.int .i64 0), (GV GErr.nil)]) from rfl))) rfl ?_
 rintro _ _ _ - ⟨rfl, g21, rfl, rfl⟩
 refine Pa (pt g21 0) rfl rfl ?_
 refine Nt ?_
 refine WC.ret ?_
 exact WQ.returnsF h [[(g21, .cells #[v0, (.int .i64 0), (GV GErr.nil)] 100 (0, 0))]] rfl (results1 rfl rfl) (IM.le.refl _) ⟨g21, v0, rfl, rfl, h0⟩

noncomputable def f_wire_Reader_fail (a0 : T_wire_Reader) (a1 : ByteArray) (a2 : Int) (a3 : Int) : Option GErr :=
  (if a0.err.isNil = true then ((f_fault_New a1 a2 a3).bind fun (r22 : GErr) => (some r22)) else (some a0.err))
def f_wire_Reader_fail_post (a0 : T_wire_Reader) (a1 : ByteArray) (a2 : Int) (a3 : Int) (v0_0 : Value) (g0 : Nat) : GErr → Value → IM → HL → Prop :=
  fun (r0 : GErr) (v : Value) (M' : IM) (H' : HL) => (.tuple #[]) = v ∧ H' = [[(g0, .cells #[v0_0, (.int .i64 a0.at_), (GV r0)] 100 (0, 0))]]
theorem f_wire_Reader_fail_ok (a0 : T_wire_Reader) (a1 : ByteArray) (a2 : Int) (a3 : Int) (M : IM) (v0_0 : Value) (g0 : Nat) (h0_0 : RS (Kd.int .u8) M v0_0 a0.b) (res : GErr) (h : f_wire_Reader_fail a0 a1 a2 a3 = some res) :
    Tri Tryz.prog 59 #[(pt g0 0), (.string a1), (.int .i64 a2), (.int .i64 a3)] M [[(g0, .cells #[v0_0, (.int .i64 a0.at_), (GV a0.err)] 100 (0, 0))]] (f_wire_Reader_fail_post a0 a1 a2 a3 v0_0 g0 res) := by
 unfold f_wire_Reader_fail at h
 refine Tri.enter (fn := Tryz.f59) Tryz.func59 rfl (Nat.le_of_ble_eq_true rfl) ?_
 intro F ρ hρ
 refine Sr ?_
 refine Pm (pt g0 0) (hρ 0) rfl ?_
 refine Pu (pt g0 0) (PO.nilCheck rfl) rfl ?_
 refine Pu (pt g0 2) (PO.fieldAddr fo100_2 rfl rfl) rfl ?_
 refine Pu (GV a0.err) (PO.loadB 0 pl30 rfl rfl rfl) rfl ?_
 refine Pu (.bool a0.err.isNil) (PO.errNil Tryz.underlying30 rfl) rfl ?_
 refine Nt ?_
 refine WC.cond (b := a0.err.isNil) rfl (fun hb21 => ?_) (fun hb21 => ?_)
 have h := ite_t hb21 h
 refine WC.region ?_
 refine Pm (pt g0 0) (hρ 0) rfl ?_
 refine Pm (.string a1) (hρ 1) rfl ?_
 refine Pm (.int .i64 a2) (hρ 2) rfl ?_
 refine Pm (.int .i64 a3) (hρ 3) rfl ?_
 obtain ⟨r22, hr23, h⟩ := bnd h
 refine WL.eff (EO.call0 co17 (f_fault_New_ok a1 a2 a3 _ r22 hr23) (args3 rfl rfl rfl)) rfl ?_
 rintro _ M24 _ hle25 ⟨_, ⟨rfl, rfl⟩, rfl⟩
 have h0_0 := h0_0.mono hle25
 refine WL.a0 ?_
 refine Pu (pt g0 0) (PO.nilCheck rfl) rfl ?_
 refine Pu (pt g0 2) (PO.fieldAddr fo100_2 rfl rfl) rfl ?_
 refine WL.eff (EO.storeL (v := (GV r22)) (vl := [(GV r22)]) (arr' := [v0_0, (.int .i64 a0.at_), (GV r22)]) (GErr.val_cells _ _ _ _) sz30 rfl rfl (onesOf (Ones.cons (GErr.val_one _ _ _ _) Ones.nil)) rfl rfl rfl) rfl ?_
 rintro _ _ _ - ⟨rfl, rfl⟩
 refine WL.nil ?_
 exact WQ.endsF h [[(g0, .cells #[v0_0, (.int .i64 a0.at_), (GV r22)] 100 (0, 0))]] rfl (results0 rfl) hle25 ⟨rfl, rfl⟩
 have h := ite_f hb21 h
 refine WC.skip ?_
 exact WQ.endsF h [[(g0, .cells #[v0_0, (.int .i64 a0.at_), (GV a0.err)] 100 (0, 0))]] rfl (results0 rfl) (IM.le.refl _) ⟨rfl, rfl⟩

noncomputable def f_wire_Reader_Num_1 (a0 : Int) (a1 : (List Int)) (a2 : Int) : Option (Int × Int) :=
  (grd (0 ≤ a2 ∧ a2 < a1.length) (some (orI .u64 (shlI .u64 a0 (8 : Int)) (IntKind.u64.wrap (rd a1 a2)), IntKind.i64.wrap (a2 + (1 : Int)))))
def f_wire_Reader_Num_1_post (a0 : Int) (a1 : (List Int)) (a2 : Int) (v1 : Value) (g0 g1 g2 : Nat) : (Int × Int) → Value → IM → HL → Prop :=
  fun (p_ : (Int × Int)) (v : Value) (M' : IM) (H' : HL) => match p_ with | (r0, r1) => (.tuple #[]) = v ∧ H' = [[(g0, .cells #[(.int .u64 r0)] 101 (0, 0))], [(g1, .cells #[v1] 22 (0, 0))], [(g2, .cells #[(.int .i64 r1)] 3 (0, 0))]]
theorem f_wire_Reader_Num_1_ok (a0 : Int) (a1 : (List Int)) (a2 : Int) (M : IM) (v1 : Value) (g0 g1 g2 : Nat) (h1 : RS (Kd.int .u8) M v1 a1) (res : (Int × Int)) (h : f_wire_Reader_Num_1 a0 a1 a2 = some res) :
    Tri Tryz.prog 74 #[(pt g0 0), (pt g1 0), (pt g2 0)] M [[(g0, .cells #[(.int .u64 a0)] 101 (0, 0))], [(g1, .cells #[v1] 22 (0, 0))], [(g2, .cells #[(.int .i64 a2)] 3 (0, 0))]] (f_wire_Reader_Num_1_post a0 a1 a2 v1 g0 g1 g2 res) := by
 unfold f_wire_Reader_Num_1 at h
 refine Tri.enter (fn := Tryz.f74) Tryz.func74 rfl (Nat.le_of_ble_eq_true rfl) ?_
 intro F ρ hρ
 refine WC.seq ?_
 refine WC.draw [0, 1, 0, 0, 12, 28, 60, 127, 255] (.pure 0 (.pure 1 (.pure 2 (.pure 3 (.pure 4 (.pure 5 (.pure 6 (.pure 7 (.alt 8 .done .none))))))))) mixed (by kernel_rfl) ?_
 refine Tp (.int .u64 a0) rfl (PO.loadB 0 pl101 (hρ 0) rfl rfl) rfl ?_
 refine Tp (.int .u64 (shlI .u64 a0 (8 : Int))) rfl (PO.shl rfl rfl (by decide)) rfl ?_
 refine Tp v1 rfl (PO.loadB 1 pl22 (hρ 1) rfl rfl) rfl ?_
 refine Tp (.int .i64 a2) rfl (PO.loadB 2 pl3 (hρ 2) rfl rfl) rfl ?_
 obtain ⟨hg21, h⟩ := grd_i h
 obtain ⟨p22, cs23, hat24, hrc25, hhas26⟩ := h1.at hg21.1 hg21.2 (by decide)
 obtain rfl := hrc25
 refine Tp (.pointer (some p22)) rfl (PO.indexAddr (n := a1.length) Tryz.underlying22 sz5 rfl rfl hg21.1 hg21.2 hat24) rfl ?_
 refine Tp (.int .u8 (rd a1 a2)) rfl (PO.loadM pl5 rfl (IM.has0 hhas26)) rfl ?_
 refine Tp (.int .u64 (IntKind.u64.wrap (rd a1 a2))) rfl (PO.conv us5 Tryz.underlying101 rfl) rfl ?_
 refine Tp (.int .u64 (orI .u64 (shlI .u64 a0 (8 : Int)) (IntKind.u64.wrap (rd a1 a2)))) rfl (PO.or rfl rfl) rfl ?_
 refine WT.alt rfl (EO.storeL (v := (.int .u64 (orI .u64 (shlI .u64 a0 (8 : Int)) (IntKind.u64.wrap (rd a1 a2))))) (vl := [(.int .u64 (orI .u64 (shlI .u64 a0 (8 : Int)) (IntKind.u64.wrap (rd a1 a2))))]) (arr' := [(.int .u64 (orI .u64 (shlI .u64 a0 (8 : Int)) (IntKind.u64.wrap (rd a1 a2))))]) rfl sz101 (hρ 0) rfl (onesOf (Ones.cons rfl Ones.nil)) rfl rfl rfl) rfl ?_ ?_
 rintro _ _ _ - ⟨rfl, rfl⟩
 refine ⟨(StabL.anc rfl (StabL.anc rfl (StabL.anc rfl (StabL.anc rfl (StabL.anc rfl (StabL.anc rfl (StabL.anc rfl (StabL.anc rfl trivial)))))))), ?_⟩
 refine WT.fin ?_
 refine WQ.thenC ?_
 refine WC.region ?_
 refine Pu (.int .i64 a2) (PO.loadB 2 pl3 (hρ 2) rfl rfl) rfl ?_
 refine Pu (.int .i64 (IntKind.i64.wrap (a2 + 1))) (PO.add rfl rfl) rfl ?_
 refine WL.f2 ?_
 refine WL.eff (EO.storeL (v := (.int .i64 (IntKind.i64.wrap (a2 + 1)))) (vl := [(.int .i64 (IntKind.i64.wrap (a2 + 1)))]) (arr' := [(.int .i64 (IntKind.i64.wrap (a2 + 1)))]) rfl sz3 (hρ 2) rfl (onesOf (Ones.cons rfl Ones.nil)) rfl rfl rfl) rfl ?_
 rintro _ _ _ - ⟨rfl, rfl⟩
 refine WL.nil ?_
 refine WQ.f2 ?_
 refine WQ.f2 ?_
 exact WQ.endsF h [[(g0, .cells #[(.int .u64 (orI .u64 (shlI .u64 a0 (8 : Int)) (IntKind.u64.wrap (rd a1 a2))))] 101 (0, 0))], [(g1, .cells #[v1] 22 (0, 0))], [(g2, .cells #[(.int .i64 (IntKind.i64.wrap (a2 + 1)))] 3 (0, 0))]] rfl (results0 rfl) (IM.le.refl _) ⟨rfl, rfl⟩
 exact WT.no


end Go.Proofs.YtjgnbbakamellaaGreatDoor.G
