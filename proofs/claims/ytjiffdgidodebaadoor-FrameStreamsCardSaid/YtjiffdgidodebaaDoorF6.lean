/- Go functions: what they come to, and that they do. Printed by a program of the session (gen). -/
import Derived.Test.YtjiffdgidodebaaDoorFF
import Derived.Test.YtjiffdgidodebaaDoorF5
import Derived.Test.YtjiffdgidodebaaDoorKShar
set_option linter.unusedVariables false
set_option linter.unusedSimpArgs false
set_option maxHeartbeats 8000000
set_option maxRecDepth 100000
namespace Go.Proofs.YtjiffdgidodebaaDoor.G
open Go Go.KK

noncomputable def f_ref02_text (a0 : (List Int)) (a1 : T_ref02_State) (a2 : Int) : Option (T_ref02_State × (List Int)) :=
  ((((f_ref02_above a2).bind fun (r28 : Int) => ((f_ref02_num a0 a1 r28).bind fun (r34, r35) => (some (r34, r35)))) : Option (T_ref02_State × Int)).bind fun (x24, x25) => (if (decide (x24.Code ≠ (0 : Int))) = true then (some (x24, [])) else (if (decide ((IntKind.u64.wrap (IntKind.i64.wrap ((a0.length : Int) - x24.At))) < x25)) = true then ((f_ref02_bad (⟨a1.At, (0 : Int), (⟨#[]⟩ : ByteArray), (0 : Int)⟩ : T_ref02_State) (⟨#[116, 101, 120, 116]⟩ : ByteArray) a1.At (3 : Int)).bind fun (r65 : T_ref02_State) => (some (r65, []))) else (grd (0 ≤ x24.At ∧ x24.At ≤ IntKind.i64.wrap (x24.At + (IntKind.i64.wrap x25)) ∧ IntKind.i64.wrap (x24.At + (IntKind.i64.wrap x25)) ≤ (a0.length : Int)) (some ((⟨IntKind.i64.wrap (x24.At + (IntKind.i64.wrap x25)), (0 : Int), (⟨#[]⟩ : ByteArray), (0 : Int)⟩ : T_ref02_State), sub a0 x24.At (IntKind.i64.wrap (x24.At + (IntKind.i64.wrap x25)))))))))
def f_ref02_text_post (a0 : (List Int)) (a1 : T_ref02_State) (a2 : Int) (v0 : Value) : (T_ref02_State × (List Int)) → Value → IM → HL → Prop :=
  fun (p_ : (T_ref02_State × (List Int))) (v : Value) (M' : IM) (H' : HL) => match p_ with | (r0, r1) => ∃ vz1, (.tuple #[(.agg #[(.int .i64 r0.At), (.int .i64 r0.Code), (.string r0.Op), (.int .i64 r0.Where)]), vz1]) = v ∧ H' = [] ∧ RS (Kd.int .u8) M' vz1 r1
theorem f_ref02_text_ok (a0 : (List Int)) (a1 : T_ref02_State) (a2 : Int) (M : IM) (v0 : Value) (h0 : RS (Kd.int .u8) M v0 a0) (res : (T_ref02_State × (List Int))) (h : f_ref02_text a0 a1 a2 = some res) :
    Tri Tryd.prog 72 #[v0, (a94_ a1), (.int .i64 a2)] M [] (f_ref02_text_post a0 a1 a2 v0 res) := by
 unfold f_ref02_text at h
 refine Tri.enter (fn := Tryd.f72) Tryd.func72 rfl (Nat.le_of_ble_eq_true rfl) ?_
 intro F ρ hρ
 refine Sr ?_
 refine WL.eff (EO.box (cs := (l94 a1).toArray) (congrArg Value.cells (asE (a94_ a1) (hρ 1)))) rfl ?_
 rintro _ _ _ - ⟨rfl, g21, rfl, rfl⟩
 refine WL.eff (EO.alloc ze94 rfl) rfl ?_
 rintro _ _ _ - ⟨rfl, g22, rfl, rfl⟩
 refine Pa (.slice none 0 0) rfl rfl ?_
 refine Nt ?_
 obtain ⟨j26, hj26, h⟩ := bnd h
 refine WC.joinF (fun (p_ : (T_ref02_State × Int)) ρ' M' H' => match p_ with | (x24, x25) => ∃ g23, M.le M' ∧ [(g22, .cells z94_.toArray 94 (0, 0))] :: [(g21, .cells (l94 a1).toArray 94 (0, 0))] :: [(g23, .cells (l94 x24).toArray 94 (0, 0))] :: F = H' ∧ ρ' 0 = v0 ∧ ρ' 4 = (pt g21 0) ∧ ρ' 6 = (pt g22 0) ∧ ρ' 8 = (pt g23 0) ∧ ρ' 9 = (.int .u64 x25)) j26 ?_ ?_
 have h326 := h
 have h := hj26
 refine WC.draw [0, 0, 0, 4, 15, 31, 63, 63, 0, 383, 1023] (.pure 0 (.pure 1 (.pure 2 (.alt 3 (.alt 4 (.pure 5 (.pure 6 (.pure 7 (.alt 8 (.alt 9 (.pure 10 .done) .none) .none)))) (.alt 8 (.alt 4 (.pure 5 (.pure 6 (.pure 7 (.alt 9 (.pure 10 .done) .none)))) .none) .none)) (.alt 8 (.alt 3 (.alt 4 (.pure 5 (.pure 6 (.pure 7 (.alt 9 (.pure 10 .done) .none)))) .none) .none) .none))))) mixed (by kernel_rfl) ?_
 refine Tp v0 rfl (PO.move (hρ 0)) rfl ?_
 refine Tp (a94_ a1) rfl (PO.loadBA (cs := (l94 a1)) 1 ag94 sz94 rfl rfl rfl) rfl ?_
 refine Tp (.int .i64 a2) rfl (PO.move (hρ 2)) rfl ?_
 have hk27 := h
 obtain ⟨r28, hr29, h⟩ := bnd h
 refine WT.alt rfl (EO.call0 co70 (f_ref02_above_ok a2 _ r28 hr29) (args1 rfl)) rfl ?_ ?_
 rintro _ M30 _ hle31 ⟨_, ⟨rfl, rfl⟩, rfl⟩
 have h0 := h0.mono hle31
 refine ⟨(StabL.anc rfl (StabL.st (StabA.of rfl (PO.loadBA (cs := (l94 a1)) 1 ag94 sz94 rfl rfl rfl) rfl) (StabL.st (StabA.of rfl (PO.move (hρ 0)) rfl) trivial))), ?_⟩
 refine WT.a0 ?_
 have hk33 := h
 obtain ⟨⟨r34, r35⟩, hr36, h⟩ := bnd h
 refine WT.alt rfl (EO.call0 co69 (f_ref02_num_ok a0 a1 r28 _ _ h0 (r34, r35) hr36) (args3 rfl rfl rfl)) rfl ?_ ?_
 rintro _ M37 _ hle38 ⟨_, ⟨rfl, rfl⟩, rfl⟩
 have h0 := h0.mono hle38
 refine ⟨(StabL.anc rfl (StabL.anc rfl (StabL.anc rfl trivial))), ?_⟩
 refine WT.a0 ?_
 refine Tp (.tuple #[(a94_ r34), (.int .u64 r35)]) rfl (PO.move rfl) rfl ?_
 refine Tp (a94_ r34) rfl (PO.extract rfl rfl) rfl ?_
 refine Tp (.int .u64 r35) rfl (PO.extract rfl rfl) rfl ?_
 refine WT.alt rfl (EO.alloc ze94 rfl) rfl ?_ ?_
 rintro _ _ _ - ⟨rfl, g41, rfl, rfl⟩
 refine ⟨(StabL.st (StabA.of rfl (PO.extract rfl rfl) rfl) (StabL.st (StabA.of rfl (PO.extract rfl rfl) rfl) (StabL.st (StabA.of rfl (PO.move rfl) rfl) (StabL.st (StabA.of rfl (PO.move (hρ 2)) rfl) (StabL.st (StabA.of rfl (PO.loadBA (cs := (l94 a1)) 2 ag94 sz94 rfl rfl rfl) rfl) (StabL.st (StabA.of rfl (PO.move (hρ 0)) rfl) trivial)))))), ?_⟩
 refine WT.alt rfl (EO.storeL (v := (a94_ r34)) (vl := (l94 r34)) (arr' := (l94 r34)) rfl sz94 rfl rfl (onesOf (Ones.cons rfl (Ones.cons rfl (Ones.cons rfl (Ones.cons rfl Ones.nil))))) rfl rfl rfl) rfl ?_ ?_
 rintro _ _ _ - ⟨rfl, rfl⟩
 refine ⟨(StabL.st (StabA.of rfl (PO.extract rfl rfl) rfl) (StabL.anc rfl (StabL.anc rfl (StabL.anc rfl (StabL.anc rfl (StabL.anc rfl trivial)))))), ?_⟩
 refine Tp (.int .u64 r35) rfl (PO.assign rfl) rfl ?_
 refine WT.fin ?_
 refine WQ.f2 ?_
 refine WQ.f2 ?_
 obtain rfl := Option.some.inj h
 refine WQ.thenJ ?_
 exact ⟨g41, (hle31.trans hle38), rfl, (hρ 0), rfl, rfl, rfl, rfl⟩
 exact WT.no
 exact WT.no
 have h := hk33
 refine WT.alt rfl (EO.alloc ze94 rfl) rfl ?_ ?_
 rintro _ _ _ - ⟨rfl, g42, rfl, rfl⟩
 refine ⟨(StabL.st (StabA.of rfl (PO.move (hρ 2)) rfl) (StabL.st (StabA.of rfl (PO.loadBA (cs := (l94 a1)) 2 ag94 sz94 rfl rfl rfl) rfl) (StabL.st (StabA.of rfl (PO.move (hρ 0)) rfl) trivial))), ?_⟩
 obtain ⟨⟨r43, r44⟩, hr45, h⟩ := bnd h
 refine WT.alt rfl (EO.call0 co69 (f_ref02_num_ok a0 a1 r28 _ _ h0 (r43, r44) hr45) (args3 rfl rfl rfl)) rfl ?_ ?_
 rintro _ M46 _ hle47 ⟨_, ⟨rfl, rfl⟩, rfl⟩
 have h0 := h0.mono hle47
 refine ⟨(StabL.anc rfl (StabL.anc rfl (StabL.anc rfl trivial))), ?_⟩
 refine WT.a0 ?_
 refine Tp (.tuple #[(a94_ r43), (.int .u64 r44)]) rfl (PO.move rfl) rfl ?_
 refine Tp (a94_ r43) rfl (PO.extract rfl rfl) rfl ?_
 refine Tp (.int .u64 r44) rfl (PO.extract rfl rfl) rfl ?_
 refine WT.alt rfl (EO.storeL (v := (a94_ r43)) (vl := (l94 r43)) (arr' := (l94 r43)) rfl sz94 rfl rfl (onesOf (Ones.cons rfl (Ones.cons rfl (Ones.cons rfl (Ones.cons rfl Ones.nil))))) rfl rfl rfl) rfl ?_ ?_
 rintro _ _ _ - ⟨rfl, rfl⟩
 refine ⟨(StabL.st (StabA.of rfl (PO.extract rfl rfl) rfl) (StabL.anc rfl (StabL.anc rfl (StabL.anc rfl (StabL.anc rfl (StabL.anc rfl trivial)))))), ?_⟩
 refine Tp (.int .u64 r44) rfl (PO.assign rfl) rfl ?_
 refine WT.fin ?_
 refine WQ.f2 ?_
 refine WQ.f2 ?_
 obtain rfl := Option.some.inj h
 refine WQ.thenJ ?_
 exact ⟨g42, (hle31.trans hle47), rfl, (hρ 0), rfl, rfl, rfl, rfl⟩
 exact WT.no
 exact WT.no
 exact WT.no
 have h := hk27
 refine WT.alt rfl (EO.alloc ze94 rfl) rfl ?_ ?_
 rintro _ _ _ - ⟨rfl, g50, rfl, rfl⟩
 refine ⟨(StabL.st (StabA.of rfl (PO.move (hρ 2)) rfl) (StabL.st (StabA.of rfl (PO.loadBA (cs := (l94 a1)) 2 ag94 sz94 rfl rfl rfl) rfl) (StabL.st (StabA.of rfl (PO.move (hρ 0)) rfl) trivial))), ?_⟩
 obtain ⟨r51, hr52, h⟩ := bnd h
 refine WT.alt rfl (EO.call0 co70 (f_ref02_above_ok a2 _ r51 hr52) (args1 rfl)) rfl ?_ ?_
 rintro _ M53 _ hle54 ⟨_, ⟨rfl, rfl⟩, rfl⟩
 have h0 := h0.mono hle54
 refine ⟨(StabL.anc rfl (StabL.st (StabA.of rfl (PO.loadBA (cs := (l94 a1)) 2 ag94 sz94 rfl rfl rfl) rfl) (StabL.st (StabA.of rfl (PO.move (hρ 0)) rfl) trivial))), ?_⟩
 refine WT.a0 ?_
 obtain ⟨⟨r56, r57⟩, hr58, h⟩ := bnd h
 refine WT.alt rfl (EO.call0 co69 (f_ref02_num_ok a0 a1 r51 _ _ h0 (r56, r57) hr58) (args3 rfl rfl rfl)) rfl ?_ ?_
 rintro _ M59 _ hle60 ⟨_, ⟨rfl, rfl⟩, rfl⟩
 have h0 := h0.mono hle60
 refine ⟨(StabL.anc rfl (StabL.anc rfl (StabL.anc rfl trivial))), ?_⟩
 refine WT.a0 ?_
 refine Tp (.tuple #[(a94_ r56), (.int .u64 r57)]) rfl (PO.move rfl) rfl ?_
 refine Tp (a94_ r56) rfl (PO.extract rfl rfl) rfl ?_
 refine Tp (.int .u64 r57) rfl (PO.extract rfl rfl) rfl ?_
 refine WT.alt rfl (EO.storeL (v := (a94_ r56)) (vl := (l94 r56)) (arr' := (l94 r56)) rfl sz94 rfl rfl (onesOf (Ones.cons rfl (Ones.cons rfl (Ones.cons rfl (Ones.cons rfl Ones.nil))))) rfl rfl rfl) rfl ?_ ?_
 rintro _ _ _ - ⟨rfl, rfl⟩
 refine ⟨(StabL.st (StabA.of rfl (PO.extract rfl rfl) rfl) (StabL.anc rfl (StabL.anc rfl (StabL.anc rfl (StabL.anc rfl (StabL.anc rfl trivial)))))), ?_⟩
 refine Tp (.int .u64 r57) rfl (PO.assign rfl) rfl ?_
 refine WT.fin ?_
 refine WQ.f2 ?_
 refine WQ.f2 ?_
 obtain rfl := Option.some.inj h
 refine WQ.thenJ ?_
 exact ⟨g50, (hle54.trans hle60), rfl, (hρ 0), rfl, rfl, rfl, rfl⟩
 exact WT.no
 exact WT.no
 exact WT.no
 exact WT.no
 obtain ⟨x24, x25⟩ := j26
 rintro ρ26 M26 H26 ⟨g23, hle26, rfl, hs26_0, hs26_4, hs26_6, hs26_8, hs26_9⟩
 have h0 := h0.mono hle26
 refine WC.seq ?_
 refine Sr ?_
 refine Pu (pt g23 1) (PO.fieldAddr fo94_1 hs26_8 rfl) rfl ?_
 refine Pu (.int .i64 x24.Code) (PO.loadB 2 pl47 rfl rfl rfl) rfl ?_
 refine Pu (.bool (decide (x24.Code ≠ 0))) (PO.neq rfl rfl) rfl ?_
 refine Nt ?_
 refine WC.cond (b := decide (x24.Code ≠ 0)) rfl (fun hb63 => ?_) (fun hb63 => ?_)
 have h := ite_t hb63 h
 refine Sr ?_
 refine Pu (a94_ x24) (PO.loadBA (cs := (l94 x24)) 2 ag94 sz94 hs26_8 rfl rfl) rfl ?_
 refine WL.eff (EO.storeL (v := (a94_ x24)) (vl := (l94 x24)) (arr' := (l94 x24)) rfl sz94 hs26_6 rfl (onesOf (Ones.cons rfl (Ones.cons rfl (Ones.cons rfl (Ones.cons rfl Ones.nil))))) rfl rfl rfl) rfl ?_
 rintro _ _ _ - ⟨rfl, rfl⟩
 refine Pa (.slice none 0 0) rfl rfl ?_
 refine Nt ?_
 refine WC.ret ?_
 refine WQ.thenR ?_
 refine WQ.f1 ?_
 refine WQ.drop ?_
 refine WQ.f1 ?_
 refine WQ.drop ?_
 exact WQ.returnsD h [] (fun _ hs => hs.drop) (resultsLN rfl (RVs.cons (RV.cellA (cs := (l94 x24)) 0 ag94 sz94 hs26_6 rfl rfl) (RVs.cons (RV.tmp rfl) RVs.nil))) hle26 ⟨(.slice none 0 0), rfl, rfl, RS.nil _ _⟩
 have h := ite_f hb63 h
 refine WC.skip ?_
 refine WQ.thenC ?_
 refine WC.seq ?_
 refine Sr ?_
 refine Pm v0 hs26_0 rfl ?_
 refine Pu (.int .i64 (a0.length : Int)) (PO.lenS Tryd.underlying26 rfl h0.len) rfl ?_
 refine Pu (pt g23 0) (PO.fieldAddr fo94_0 hs26_8 rfl) rfl ?_
 refine Pu (.int .i64 x24.At) (PO.loadB 2 pl3 rfl rfl rfl) rfl ?_
 refine Pu (.int .i64 (IntKind.i64.wrap ((a0.length : Int) - x24.At))) (PO.sub rfl rfl) rfl ?_
 refine Pu (.int .u64 (IntKind.u64.wrap (IntKind.i64.wrap ((a0.length : Int) - x24.At)))) (PO.conv us3 Tryd.underlying42 rfl) rfl ?_
 refine Pm (.int .u64 x25) hs26_9 rfl ?_
 refine Pu (.bool (decide ((IntKind.u64.wrap (IntKind.i64.wrap ((a0.length : Int) - x24.At))) < x25))) (PO.lss rfl rfl) rfl ?_
 refine Nt ?_
 refine WC.cond (b := decide ((IntKind.u64.wrap (IntKind.i64.wrap ((a0.length : Int) - x24.At))) < x25)) rfl (fun hb64 => ?_) (fun hb64 => ?_)
 have h := ite_t hb64 h
 refine Sr ?_
 refine Pu (pt g21 0) (PO.fieldAddr fo94_0 hs26_4 rfl) rfl ?_
 refine Pu (.int .i64 a1.At) (PO.loadB 1 pl3 rfl rfl rfl) rfl ?_
 refine Pu (.agg #[(.int .i64 a1.At), (.int .i64 0), (.string ⟨#[]⟩), (.int .i64 0)]) (PO.buildL (cl := [(.int .i64 a1.At), (.int .i64 0), (.string ⟨#[]⟩), (.int .i64 0)]) ze94 fp94 (Parts.cons (congrArg Value.cells (show ev _ _ = (.int .i64 a1.At) from rfl)) Parts.nil) rfl) rfl ?_
 refine Pu (pt g21 0) (PO.fieldAddr fo94_0 hs26_4 rfl) rfl ?_
 refine Pu (.int .i64 a1.At) (PO.loadB 1 pl3 rfl rfl rfl) rfl ?_
 obtain ⟨r65, hr66, h⟩ := bnd h
 refine WL.eff (EO.call0 co71 (f_ref02_bad_ok (⟨a1.At, (0 : Int), (⟨#[]⟩ : ByteArray), (0 : Int)⟩ : T_ref02_State) (⟨#[116, 101, 120, 116]⟩ : ByteArray) a1.At (3 : Int) _ r65 hr66) (args4 rfl rfl rfl rfl)) rfl ?_
 rintro _ M67 _ hle68 ⟨_, ⟨rfl, rfl⟩, rfl⟩
 have h0 := h0.mono hle68
 refine WL.a0 ?_
 refine WL.eff (EO.storeL (v := (a94_ r65)) (vl := (l94 r65)) (arr' := (l94 r65)) rfl sz94 hs26_6 rfl (onesOf (Ones.cons rfl (Ones.cons rfl (Ones.cons rfl (Ones.cons rfl Ones.nil))))) rfl rfl rfl) rfl ?_
 rintro _ _ _ - ⟨rfl, rfl⟩
 refine Pa (.slice none 0 0) rfl rfl ?_
 refine Nt ?_
 refine WC.ret ?_
 refine WQ.thenR ?_
 refine WQ.f1 ?_
 refine WQ.drop ?_
 refine WQ.f1 ?_
 refine WQ.drop ?_
 exact WQ.returnsD h [] (fun _ hs => hs.drop) (resultsLN rfl (RVs.cons (RV.cellA (cs := (l94 r65)) 0 ag94 sz94 hs26_6 rfl rfl) (RVs.cons (RV.tmp rfl) RVs.nil))) (hle26.trans hle68) ⟨(.slice none 0 0), rfl, rfl, RS.nil _ _⟩
 have h := ite_f hb64 h
 refine WC.skip ?_
 refine WQ.thenC ?_
 refine WC.seq ?_
 refine WC.draw [0, 1, 0, 4, 15, 31, 0, 0, 128, 0, 512, 0, 2048, 7680, 16320, 63, 65535] (.pure 0 (.pure 1 (.pure 2 (.pure 3 (.pure 4 (.pure 5 (.pure 6 (.pure 7 (.pure 8 (.pure 9 (.pure 10 (.pure 11 (.pure 12 (.pure 13 (.pure 14 (.alt 15 (.pure 16 .done) .none)))))))))))))))) mixed (by kernel_rfl) ?_
 refine Tp (pt g23 0) rfl (PO.fieldAddr fo94_0 hs26_8 rfl) rfl ?_
 refine Tp (.int .i64 x24.At) rfl (PO.loadB 2 pl3 rfl rfl rfl) rfl ?_
 refine Tp (.int .u64 x25) rfl (PO.move hs26_9) rfl ?_
 refine Tp (.int .i64 (IntKind.i64.wrap x25)) rfl (PO.conv us42 Tryd.underlying3 rfl) rfl ?_
 refine Tp (.int .i64 (IntKind.i64.wrap (x24.At + (IntKind.i64.wrap x25)))) rfl (PO.add rfl rfl) rfl ?_
 refine Tp (.agg #[(.int .i64 (IntKind.i64.wrap (x24.At + (IntKind.i64.wrap x25)))), (.int .i64 0), (.string ⟨#[]⟩), (.int .i64 0)]) rfl (PO.buildL (cl := [(.int .i64 (IntKind.i64.wrap (x24.At + (IntKind.i64.wrap x25)))), (.int .i64 0), (.string ⟨#[]⟩), (.int .i64 0)]) ze94 fp94 (Parts.cons (congrArg Value.cells (show ev _ _ = (.int .i64 (IntKind.i64.wrap (x24.At + (IntKind.i64.wrap x25)))) from rfl)) Parts.nil) rfl) rfl ?_
 refine Tp v0 rfl (PO.move hs26_0) rfl ?_
 refine Tp (pt g23 0) rfl (PO.fieldAddr fo94_0 hs26_8 rfl) rfl ?_
 refine Tp (.int .i64 x24.At) rfl (PO.loadB 2 pl3 rfl rfl rfl) rfl ?_
 refine Tp (pt g23 0) rfl (PO.fieldAddr fo94_0 hs26_8 rfl) rfl ?_
 refine Tp (.int .i64 x24.At) rfl (PO.loadB 2 pl3 rfl rfl rfl) rfl ?_
 refine Tp (.int .u64 x25) rfl (PO.move hs26_9) rfl ?_
 refine Tp (.int .i64 (IntKind.i64.wrap x25)) rfl (PO.conv us42 Tryd.underlying3 rfl) rfl ?_
 refine Tp (.int .i64 (IntKind.i64.wrap (x24.At + (IntKind.i64.wrap x25)))) rfl (PO.add rfl rfl) rfl ?_
 obtain ⟨hg70, h⟩ := grd_i h
 have h71 := h0.sub hg70.1 hg70.2.1 hg70.2.2
 refine Tp (slV v0 1 (x24.At).toNat (IntKind.i64.wrap (x24.At + (IntKind.i64.wrap x25))).toNat) rfl (PO.slice (n := a0.length) (l := (x24.At).toNat) (h := (IntKind.i64.wrap (x24.At + (IntKind.i64.wrap x25))).toNat) Tryd.underlying26 sz5 rfl h0.len h0.cap ⟨_, _, rfl, hg70.1, rfl⟩ ⟨_, _, rfl, (Int.le_trans hg70.1 hg70.2.1), rfl⟩ (Int.toNat_le_toNat hg70.2.1) (toNat_le_len hg70.2.2)) rfl ?_
 refine WT.alt rfl (EO.storeL (v := (.agg #[(.int .i64 (IntKind.i64.wrap (x24.At + (IntKind.i64.wrap x25)))), (.int .i64 0), (.string ⟨#[]⟩), (.int .i64 0)])) (vl := [(.int .i64 (IntKind.i64.wrap (x24.At + (IntKind.i64.wrap x25)))), (.int .i64 0), (.string ⟨#[]⟩), (.int .i64 0)]) (arr' := [(.int .i64 (IntKind.i64.wrap (x24.At + (IntKind.i64.wrap x25)))), (.int .i64 0), (.string ⟨#[]⟩), (.int .i64 0)]) rfl sz94 hs26_6 rfl (onesOf (Ones.cons rfl (Ones.cons rfl (Ones.cons rfl (Ones.cons rfl Ones.nil))))) rfl rfl rfl) rfl ?_ ?_
 rintro _ _ _ - ⟨rfl, rfl⟩
 refine ⟨(StabL.st (StabA.of rfl (PO.slice (n := a0.length) (l := (x24.At).toNat) (h := (IntKind.i64.wrap (x24.At + (IntKind.i64.wrap x25))).toNat) Tryd.underlying26 sz5 rfl h0.len h0.cap ⟨_, _, rfl, hg70.1, rfl⟩ ⟨_, _, rfl, (Int.le_trans hg70.1 hg70.2.1), rfl⟩ (Int.toNat_le_toNat hg70.2.1) (toNat_le_len hg70.2.2)) rfl) (StabL.st (StabA.of rfl (PO.add rfl rfl) rfl) (StabL.st (StabA.of rfl (PO.conv us42 Tryd.underlying3 rfl) rfl) (StabL.st (StabA.of rfl (PO.move hs26_9) rfl) (StabL.st (StabA.of rfl (PO.loadB 2 pl3 rfl rfl rfl) rfl) (StabL.st (StabA.of rfl (PO.fieldAddr fo94_0 hs26_8 rfl) rfl) (StabL.st (StabA.of rfl (PO.loadB 2 pl3 rfl rfl rfl) rfl) (StabL.st (StabA.of rfl (PO.fieldAddr fo94_0 hs26_8 rfl) rfl) (StabL.st (StabA.of rfl (PO.move hs26_0) rfl) (StabL.anc rfl (StabL.anc rfl (StabL.anc rfl (StabL.anc rfl (StabL.anc rfl (StabL.anc rfl trivial))))))))))))))), ?_⟩
 refine Tp (slV v0 1 (x24.At).toNat (IntKind.i64.wrap (x24.At + (IntKind.i64.wrap x25))).toNat) rfl (PO.assign rfl) rfl ?_
 refine WT.fin ?_
 refine WQ.thenC ?_
 refine WC.ret ?_
 refine WQ.f1 ?_
 refine WQ.drop ?_
 refine WQ.f1 ?_
 refine WQ.drop ?_
 exact WQ.returnsD h [] (fun _ hs => hs.drop) (resultsLN rfl (RVs.cons (RV.cellA (cs := [(.int .i64 (IntKind.i64.wrap (x24.At + (IntKind.i64.wrap x25)))), (.int .i64 0), (.string ⟨#[]⟩), (.int .i64 0)]) 0 ag94 sz94 hs26_6 rfl rfl) (RVs.cons (RV.tmp rfl) RVs.nil))) hle26 ⟨(slV v0 1 (x24.At).toNat (IntKind.i64.wrap (x24.At + (IntKind.i64.wrap x25))).toNat), rfl, rfl, h71⟩
 exact WT.no

noncomputable def f_ref02_row_l0 (a0 : (List Int)) (a3 : Int) (x25 : Int) (s_ : ((List Int) × Int × Int × Int × ByteArray × Int)) : Option (((List Int) × Int × Int × Int × ByteArray × Int) ⊕ ((List Int) × Int × Int × ByteArray × Int)) :=
  match s_ with
  | (x70, x71, x72, x73, x74, x75) =>
    (((if (decide (x71 < x25)) = true then (some (decide (x73 = (0 : Int)))) else (some false)) : Option Bool).bind fun (x81 : Bool) => (if x81 = true then ((((f_ref02_above a3).bind fun (r90 : Int) => ((f_ref02_num a0 (⟨x72, x73, x74, x75⟩ : T_ref02_State) r90).bind fun (r96, r97) => (some (r96, r97)))) : Option (T_ref02_State × Int)).bind fun (x86, x87) => (grd (x70.length + [IntKind.i64.wrap x87].length ≤ 274877906944) (some (Sum.inl (x70 ++ [IntKind.i64.wrap x87], IntKind.u64.wrap (x71 + (1 : Int)), x86.At, x86.Code, x86.Op, x86.Where))))) else (some (Sum.inr (x70, x72, x73, x74, x75)))))
noncomputable def f_ref02_row (a0 : (List Int)) (a1 : T_ref02_State) (a2 : Int) (a3 : Int) : Option (T_ref02_State × (List Int)) :=
  ((((f_ref02_above a2).bind fun (r28 : Int) => ((f_ref02_num a0 a1 r28).bind fun (r34, r35) => (some (r34, r35)))) : Option (T_ref02_State × Int)).bind fun (x24, x25) => ((((iter (f_ref02_row_l0 a0 a3 x25) ([], (0 : Int), x24.At, x24.Code, x24.Op, x24.Where)).bind (fun (x76, x77, x78, x79, x80) => (some (x76, x77, x78, x79, x80)))) : Option ((List Int) × Int × Int × ByteArray × Int)).bind fun (x63, x64, x65, x66, x67) => (if (decide (x65 ≠ (0 : Int))) = true then (some ((⟨x64, x65, x66, x67⟩ : T_ref02_State), [])) else (some ((⟨x64, x65, x66, x67⟩ : T_ref02_State), x63)))))
def f_ref02_row_post (a0 : (List Int)) (a1 : T_ref02_State) (a2 : Int) (a3 : Int) (v0 : Value) : (T_ref02_State × (List Int)) → Value → IM → HL → Prop :=
  fun (p_ : (T_ref02_State × (List Int))) (v : Value) (M' : IM) (H' : HL) => match p_ with | (r0, r1) => ∃ vz1 cz1, (.tuple #[(.agg #[(.int .i64 r0.At), (.int .i64 r0.Code), (.string r0.Op), (.int .i64 r0.Where)]), vz1]) = v ∧ H' = [cz1] ∧ OwnS (Kd.int .i64) M' vz1 r1 cz1
theorem f_ref02_row_ok (a0 : (List Int)) (a1 : T_ref02_State) (a2 : Int) (a3 : Int) (M : IM) (v0 : Value) (h0 : RS (Kd.int .u8) M v0 a0) (res : (T_ref02_State × (List Int))) (h : f_ref02_row a0 a1 a2 a3 = some res) :
    Tri Tryd.prog 73 #[v0, (a94_ a1), (.int .i64 a2), (.int .i64 a3)] M [] (f_ref02_row_post a0 a1 a2 a3 v0 res) := by
 unfold f_ref02_row at h
 refine Tri.enter (fn := Tryd.f73) Tryd.func73 rfl (Nat.le_of_ble_eq_true rfl) ?_
 intro F ρ hρ
 refine Sr ?_
 refine WL.eff (EO.box (cs := (l94 a1).toArray) (congrArg Value.cells (asE (a94_ a1) (hρ 1)))) rfl ?_
 rintro _ _ _ - ⟨rfl, g21, rfl, rfl⟩
 refine WL.eff (EO.alloc ze94 rfl) rfl ?_
 rintro _ _ _ - ⟨rfl, g22, rfl, rfl⟩
 refine Pa (.slice none 0 0) rfl rfl ?_
 refine Nt ?_
 obtain ⟨j26, hj26, h⟩ := bnd h
 refine WC.joinF (fun (p_ : (T_ref02_State × Int)) ρ' M' H' => match p_ with | (x24, x25) => ∃ g23, M.le M' ∧ [(g22, .cells z94_.toArray 94 (0, 0))] :: [(g21, .cells (l94 a1).toArray 94 (0, 0))] :: [(g23, .cells (l94 x24).toArray 94 (0, 0))] :: F = H' ∧ ρ' 0 = v0 ∧ ρ' 3 = (.int .i64 a3) ∧ ρ' 8 = (pt g22 0) ∧ ρ' 10 = (pt g23 0) ∧ ρ' 11 = (.int .u64 x25)) j26 ?_ ?_
 have h326 := h
 have h := hj26
 refine WC.draw [0, 0, 0, 4, 15, 31, 63, 63, 0, 383, 1023] (.pure 0 (.pure 1 (.pure 2 (.alt 3 (.alt 4 (.pure 5 (.pure 6 (.pure 7 (.alt 8 (.alt 9 (.pure 10 .done) .none) .none)))) (.alt 8 (.alt 4 (.pure 5 (.pure 6 (.pure 7 (.alt 9 (.pure 10 .done) .none)))) .none) .none)) (.alt 8 (.alt 3 (.alt 4 (.pure 5 (.pure 6 (.pure 7 (.alt 9 (.pure 10 .done) .none)))) .none) .none) .none))))) mixed (by kernel_rfl) ?_
 refine Tp v0 rfl (PO.move (hρ 0)) rfl ?_
 refine Tp (a94_ a1) rfl (PO.loadBA (cs := (l94 a1)) 1 ag94 sz94 rfl rfl rfl) rfl ?_
 refine Tp (.int .i64 a2) rfl (PO.move (hρ 2)) rfl ?_
 have hk27 := h
 obtain ⟨r28, hr29, h⟩ := bnd h
 refine WT.alt rfl (EO.call0 co70 (f_ref02_above_ok a2 _ r28 hr29) (args1 rfl)) rfl ?_ ?_
 rintro _ M30 _ hle31 ⟨_, ⟨rfl, rfl⟩, rfl⟩
 have h0 := h0.mono hle31
 refine ⟨(StabL.anc rfl (StabL.st (StabA.of rfl (PO.loadBA (cs := (l94 a1)) 1 ag94 sz94 rfl rfl rfl) rfl) (StabL.st (StabA.of rfl (PO.move (hρ 0)) rfl) trivial))), ?_⟩
 refine WT.a0 ?_
 have hk33 := h
 obtain ⟨⟨r34, r35⟩, hr36, h⟩ := bnd h
 refine WT.alt rfl (EO.call0 co69 (f_ref02_num_ok a0 a1 r28 _ _ h0 (r34, r35) hr36) (args3 rfl rfl rfl)) rfl ?_ ?_
 rintro _ M37 _ hle38 ⟨_, ⟨rfl, rfl⟩, rfl⟩
 have h0 := h0.mono hle38
 refine ⟨(StabL.anc rfl (StabL.anc rfl (StabL.anc rfl trivial))), ?_⟩
 refine WT.a0 ?_
 refine Tp (.tuple #[(a94_ r34), (.int .u64 r35)]) rfl (PO.move rfl) rfl ?_
 refine Tp (a94_ r34) rfl (PO.extract rfl rfl) rfl ?_
 refine Tp (.int .u64 r35) rfl (PO.extract rfl rfl) rfl ?_
 refine WT.alt rfl (EO.alloc ze94 rfl) rfl ?_ ?_
 rintro _ _ _ - ⟨rfl, g41, rfl, rfl⟩
 refine ⟨(StabL.st (StabA.of rfl (PO.extract rfl rfl) rfl) (StabL.st (StabA.of rfl (PO.extract rfl rfl) rfl) (StabL.st (StabA.of rfl (PO.move rfl) rfl) (StabL.st (StabA.of rfl (PO.move (hρ 2)) rfl) (StabL.st (StabA.of rfl (PO.loadBA (cs := (l94 a1)) 2 ag94 sz94 rfl rfl rfl) rfl) (StabL.st (StabA.of rfl (PO.move (hρ 0)) rfl) trivial)))))), ?_⟩
 refine WT.alt rfl (EO.storeL (v := (a94_ r34)) (vl := (l94 r34)) (arr' := (l94 r34)) rfl sz94 rfl rfl (onesOf (Ones.cons rfl (Ones.cons rfl (Ones.cons rfl (Ones.cons rfl Ones.nil))))) rfl rfl rfl) rfl ?_ ?_
 rintro _ _ _ - ⟨rfl, rfl⟩
 refine ⟨(StabL.st (StabA.of rfl (PO.extract rfl rfl) rfl) (StabL.anc rfl (StabL.anc rfl (StabL.anc rfl (StabL.anc rfl (StabL.anc rfl trivial)))))), ?_⟩
 refine Tp (.int .u64 r35) rfl (PO.assign rfl) rfl ?_
 refine WT.fin ?_
 refine WQ.f2 ?_
 refine WQ.f2 ?_
 obtain rfl := Option.some.inj h
 refine WQ.thenJ ?_
 exact ⟨g41, (hle31.trans hle38), rfl, (hρ 0), (hρ 3), rfl, rfl, rfl⟩
 exact WT.no
 exact WT.no
 have h := hk33
 refine WT.alt rfl (EO.alloc ze94 rfl) rfl ?_ ?_
 rintro _ _ _ - ⟨rfl, g42, rfl, rfl⟩
 refine ⟨(StabL.st (StabA.of rfl (PO.move (hρ 2)) rfl) (StabL.st (StabA.of rfl (PO.loadBA (cs := (l94 a1)) 2 ag94 sz94 rfl rfl rfl) rfl) (StabL.st (StabA.of rfl (PO.move (hρ 0)) rfl) trivial))), ?_⟩
 obtain ⟨⟨r43, r44⟩, hr45, h⟩ := bnd h
 refine WT.alt rfl (EO.call0 co69 (f_ref02_num_ok a0 a1 r28 _ _ h0 (r43, r44) hr45) (args3 rfl rfl rfl)) rfl ?_ ?_
 rintro _ M46 _ hle47 ⟨_, ⟨rfl, rfl⟩, rfl⟩
 have h0 := h0.mono hle47
 refine ⟨(StabL.anc rfl (StabL.anc rfl (StabL.anc rfl trivial))), ?_⟩
 refine WT.a0 ?_
 refine Tp (.tuple #[(a94_ r43), (.int .u64 r44)]) rfl (PO.move rfl) rfl ?_
 refine Tp (a94_ r43) rfl (PO.extract rfl rfl) rfl ?_
 refine Tp (.int .u64 r44) rfl (PO.extract rfl rfl) rfl ?_
 refine WT.alt rfl (EO.storeL (v := (a94_ r43)) (vl := (l94 r43)) (arr' := (l94 r43)) rfl sz94 rfl rfl (onesOf (Ones.cons rfl (Ones.cons rfl (Ones.cons rfl (Ones.cons rfl Ones.nil))))) rfl rfl rfl) rfl ?_ ?_
 rintro _ _ _ - ⟨rfl, rfl⟩
 refine ⟨(StabL.st (StabA.of rfl (PO.extract rfl rfl) rfl) (StabL.anc rfl (StabL.anc rfl (StabL.anc rfl (StabL.anc rfl (StabL.anc rfl trivial)))))), ?_⟩
 refine Tp (.int .u64 r44) rfl (PO.assign rfl) rfl ?_
 refine WT.fin ?_
 refine WQ.f2 ?_
 refine WQ.f2 ?_
 obtain rfl := Option.some.inj h
 refine WQ.thenJ ?_
 exact ⟨g42, (hle31.trans hle47), rfl, (hρ 0), (hρ 3), rfl, rfl, rfl⟩
 exact WT.no
 exact WT.no
 exact WT.no
 have h := hk27
 refine WT.alt rfl (EO.alloc ze94 rfl) rfl ?_ ?_
 rintro _ _ _ - ⟨rfl, g50, rfl, rfl⟩
 refine ⟨(StabL.st (StabA.of rfl (PO.move (hρ 2)) rfl) (StabL.st (StabA.of rfl (PO.loadBA (cs := (l94 a1)) 2 ag94 sz94 rfl rfl rfl) rfl) (StabL.st (StabA.of rfl (PO.move (hρ 0)) rfl) trivial))), ?_⟩
 obtain ⟨r51, hr52, h⟩ := bnd h
 refine WT.alt rfl (EO.call0 co70 (f_ref02_above_ok a2 _ r51 hr52) (args1 rfl)) rfl ?_ ?_
 rintro _ M53 _ hle54 ⟨_, ⟨rfl, rfl⟩, rfl⟩
 have h0 := h0.mono hle54
 refine ⟨(StabL.anc rfl (StabL.st (StabA.of rfl (PO.loadBA (cs := (l94 a1)) 2 ag94 sz94 rfl rfl rfl) rfl) (StabL.st (StabA.of rfl (PO.move (hρ 0)) rfl) trivial))), ?_⟩
 refine WT.a0 ?_
 obtain ⟨⟨r56, r57⟩, hr58, h⟩ := bnd h
 refine WT.alt rfl (EO.call0 co69 (f_ref02_num_ok a0 a1 r51 _ _ h0 (r56, r57) hr58) (args3 rfl rfl rfl)) rfl ?_ ?_
 rintro _ M59 _ hle60 ⟨_, ⟨rfl, rfl⟩, rfl⟩
 have h0 := h0.mono hle60
 refine ⟨(StabL.anc rfl (StabL.anc rfl (StabL.anc rfl trivial))), ?_⟩
 refine WT.a0 ?_
 refine Tp (.tuple #[(a94_ r56), (.int .u64 r57)]) rfl (PO.move rfl) rfl ?_
 refine Tp (a94_ r56) rfl (PO.extract rfl rfl) rfl ?_
 refine Tp (.int .u64 r57) rfl (PO.extract rfl rfl) rfl ?_
 refine WT.alt rfl (EO.storeL (v := (a94_ r56)) (vl := (l94 r56)) (arr' := (l94 r56)) rfl sz94 rfl rfl (onesOf (Ones.cons rfl (Ones.cons rfl (Ones.cons rfl (Ones.cons rfl Ones.nil))))) rfl rfl rfl) rfl ?_ ?_
 rintro _ _ _ - ⟨rfl, rfl⟩
 refine ⟨(StabL.st (StabA.of rfl (PO.extract rfl rfl) rfl) (StabL.anc rfl (StabL.anc rfl (StabL.anc rfl (StabL.anc rfl (StabL.anc rfl trivial)))))), ?_⟩
 refine Tp (.int .u64 r57) rfl (PO.assign rfl) rfl ?_
 refine WT.fin ?_
 refine WQ.f2 ?_
 refine WQ.f2 ?_
 obtain rfl := Option.some.inj h
 refine WQ.thenJ ?_
 exact ⟨g50, (hle54.trans hle60), rfl, (hρ 0), (hρ 3), rfl, rfl, rfl⟩
 exact WT.no
 exact WT.no
 exact WT.no
 exact WT.no
 obtain ⟨x24, x25⟩ := j26
 rintro ρ26 M26 H26 ⟨g23, hle26, rfl, hs26_0, hs26_3, hs26_8, hs26_10, hs26_11⟩
 have h0 := h0.mono hle26
 refine Sr ?_
 refine Pa (.slice none 0 0) rfl rfl ?_
 refine Nt ?_
 obtain ⟨j68, hj68, h⟩ := bnd h
 refine WC.joinF (fun (p_ : ((List Int) × Int × Int × ByteArray × Int)) ρ' M' H' => match p_ with | (x63, x64, x65, x66, x67) => ∃ vx63 cx63, M26.le M' ∧ [(g22, .cells z94_.toArray 94 (0, 0))] :: [(g21, .cells (l94 a1).toArray 94 (0, 0))] :: [(g23, .cells #[(.int .i64 x64), (.int .i64 x65), (.string x66), (.int .i64 x67)] 94 (0, 0))] :: cx63 :: F = H' ∧ ρ' 8 = (pt g22 0) ∧ ρ' 10 = (pt g23 0) ∧ ρ' 12 = vx63 ∧ OwnS (Kd.int .i64) M' vx63 x63 cx63) j68 ?_ ?_
 have h368 := h
 have h := hj68
 refine Sr ?_
 refine Pa (.int .u64 0) rfl rfl ?_
 refine Nt ?_
 refine WC.block ?_
 refine WC.e0 ?_
 refine WC.f3 ?_
 refine WC.f3 ?_
 refine WC.f3 ?_
 obtain ⟨e69, he69, hK69⟩ := bnd h
 clear h
 refine WC.loop he69 (fun (p_ : ((List Int) × Int × Int × Int × ByteArray × Int)) ρ' M' H' => match p_ with | (x70, x71, x72, x73, x74, x75) => ∃ vx70 cx70, M26.le M' ∧ [(g22, .cells z94_.toArray 94 (0, 0))] :: [(g21, .cells (l94 a1).toArray 94 (0, 0))] :: [(g23, .cells #[(.int .i64 x72), (.int .i64 x73), (.string x74), (.int .i64 x75)] 94 (0, 0))] :: cx70 :: F = H' ∧ ρ' 0 = v0 ∧ ρ' 3 = (.int .i64 a3) ∧ ρ' 8 = (pt g22 0) ∧ ρ' 10 = (pt g23 0) ∧ ρ' 11 = (.int .u64 x25) ∧ ρ' 12 = vx70 ∧ ρ' 13 = (.int .u64 x71) ∧ OwnS (Kd.int .i64) M' vx70 x70 cx70) ?_ ?_
 exact ⟨(.slice none 0 0), [], (IM.le.refl _), rfl, hs26_0, hs26_3, hs26_8, hs26_10, hs26_11, rfl, rfl, (OwnS.nil _ _)⟩
 rintro ⟨x70, x71, x72, x73, x74, x75⟩ o69 ρ69 M69 H69 h ⟨vx70, cx70, hle69, rfl, hs69_0, hs69_3, hs69_8, hs69_10, hs69_11, hs69_12, hs69_13, hx70⟩
 unfold f_ref02_row_l0 at h
 have h0 := h0.mono hle69
 refine WC.seq ?_
 obtain ⟨x81, hj82, h⟩ := bnd h
 refine WC.joinF (fun (x81 : Bool) ρ' M' H' => M69.le M' ∧ [(g22, .cells z94_.toArray 94 (0, 0))] :: [(g21, .cells (l94 a1).toArray 94 (0, 0))] :: [(g23, .cells #[(.int .i64 x72), (.int .i64 x73), (.string x74), (.int .i64 x75)] 94 (0, 0))] :: cx70 :: F = H' ∧ ρ' 0 = v0 ∧ ρ' 3 = (.int .i64 a3) ∧ ρ' 8 = (pt g22 0) ∧ ρ' 10 = (pt g23 0) ∧ ρ' 11 = (.int .u64 x25) ∧ ρ' 12 = vx70 ∧ ρ' 13 = (.int .u64 x71) ∧ ρ' 31 = (.bool x81)) x81 ?_ ?_
 have h382 := h
 have h := hj82
 refine WC.region ?_
 refine Pm (.int .u64 x71) hs69_13 rfl ?_
 refine Pm (.int .u64 x25) hs69_11 rfl ?_
 refine Pu (.bool (decide (x71 < x25))) (PO.lss rfl rfl) rfl ?_
 refine Pm (.bool (decide (x71 < x25))) rfl rfl ?_
 rcases Bool.eq_false_or_eq_true (decide (x71 < x25)) with hb83 | hb83
 have h := ite_t hb83 h
 refine On 27 rfl rfl hb83 ?_
 refine Pu (pt g23 1) (PO.fieldAddr fo94_1 hs69_10 rfl) rfl ?_
 refine On 27 rfl rfl hb83 ?_
 refine Pu (.int .i64 x73) (PO.loadB 2 pl47 rfl rfl rfl) rfl ?_
 refine On 27 rfl rfl hb83 ?_
 refine Pu (.bool (decide (x73 = 0))) (PO.eql rfl rfl) rfl ?_
 refine Pu (.bool (decide (x73 = 0))) (PO.pickT rfl hb83 rfl) rfl ?_
 refine WL.nil ?_
 obtain rfl := Option.some.inj h
 refine WQ.thenJ ?_
 exact ⟨(IM.le.refl _), rfl, hs69_0, hs69_3, hs69_8, hs69_10, hs69_11, hs69_12, hs69_13, rfl⟩
 have h := ite_f hb83 h
 iterate 3 refine Of 27 rfl rfl hb83 rfl ?_
 refine Pu (.bool false) (PO.pickF rfl hb83 rfl) rfl ?_
 refine WL.nil ?_
 obtain rfl := Option.some.inj h
 refine WQ.thenJ ?_
 exact ⟨(IM.le.refl _), rfl, hs69_0, hs69_3, hs69_8, hs69_10, hs69_11, hs69_12, hs69_13, rfl⟩
 rintro ρ82 M82 H82 ⟨hle82, rfl, hs82_0, hs82_3, hs82_8, hs82_10, hs82_11, hs82_12, hs82_13, hs82_31⟩
 have h0 := h0.mono hle82
 have hx70 := hx70.mono hle82
 refine WC.cond (b := x81) hs82_31 (fun hb84 => ?_) (fun hb84 => ?_)
 have h := ite_t hb84 h
 refine WC.skip ?_
 refine WQ.thenC ?_
 refine WC.seq ?_
 refine WC.block ?_
 obtain ⟨j88, hj88, h⟩ := bnd h
 refine WC.joinF (fun (p_ : (T_ref02_State × Int)) ρ' M' H' => match p_ with | (x86, x87) => ∃ g85, M82.le M' ∧ [(g22, .cells z94_.toArray 94 (0, 0))] :: [(g21, .cells (l94 a1).toArray 94 (0, 0))] :: [(g23, .cells #[(.int .i64 x72), (.int .i64 x73), (.string x74), (.int .i64 x75)] 94 (0, 0))] :: [(g85, .cells (l94 x86).toArray 94 (0, 0))] :: cx70 :: F = H' ∧ ρ' 0 = v0 ∧ ρ' 3 = (.int .i64 a3) ∧ ρ' 8 = (pt g22 0) ∧ ρ' 10 = (pt g23 0) ∧ ρ' 11 = (.int .u64 x25) ∧ ρ' 12 = vx70 ∧ ρ' 13 = (.int .u64 x71) ∧ ρ' 14 = (pt g85 0) ∧ ρ' 15 = (.int .u64 x87)) j88 ?_ ?_
 have h388 := h
 have h := hj88
 refine WC.draw [0, 0, 0, 4, 15, 31, 63, 63, 0, 383, 1023] (.pure 0 (.pure 1 (.pure 2 (.alt 3 (.alt 4 (.pure 5 (.pure 6 (.pure 7 (.alt 8 (.alt 9 (.pure 10 .done) .none) .none)))) (.alt 8 (.alt 4 (.pure 5 (.pure 6 (.pure 7 (.alt 9 (.pure 10 .done) .none)))) .none) .none)) (.alt 8 (.alt 3 (.alt 4 (.pure 5 (.pure 6 (.pure 7 (.alt 9 (.pure 10 .done) .none)))) .none) .none) .none))))) mixed (by kernel_rfl) ?_
 refine Tp v0 rfl (PO.move hs82_0) rfl ?_
 refine Tp (.agg #[(.int .i64 x72), (.int .i64 x73), (.string x74), (.int .i64 x75)]) rfl (PO.loadBA (cs := [(.int .i64 x72), (.int .i64 x73), (.string x74), (.int .i64 x75)]) 2 ag94 sz94 hs82_10 rfl rfl) rfl ?_
 refine Tp (.int .i64 a3) rfl (PO.move hs82_3) rfl ?_
 have hk89 := h
 obtain ⟨r90, hr91, h⟩ := bnd h
 refine WT.alt rfl (EO.call0 co70 (f_ref02_above_ok a3 _ r90 hr91) (args1 rfl)) rfl ?_ ?_
 rintro _ M92 _ hle93 ⟨_, ⟨rfl, rfl⟩, rfl⟩
 have h0 := h0.mono hle93
 have hx70 := hx70.mono hle93
 refine ⟨(StabL.anc rfl (StabL.st (StabA.of rfl (PO.loadBA (cs := [(.int .i64 x72), (.int .i64 x73), (.string x74), (.int .i64 x75)]) 2 ag94 sz94 hs82_10 rfl rfl) rfl) (StabL.st (StabA.of rfl (PO.move hs82_0) rfl) trivial))), ?_⟩
 refine WT.a0 ?_
 have hk95 := h
 obtain ⟨⟨r96, r97⟩, hr98, h⟩ := bnd h
 refine WT.alt rfl (EO.call0 co69 (f_ref02_num_ok a0 (⟨x72, x73, x74, x75⟩ : T_ref02_State) r90 _ _ h0 (r96, r97) hr98) (args3 rfl rfl rfl)) rfl ?_ ?_
 rintro _ M99 _ hle100 ⟨_, ⟨rfl, rfl⟩, rfl⟩
 have h0 := h0.mono hle100
 have hx70 := hx70.mono hle100
 refine ⟨(StabL.anc rfl (StabL.anc rfl (StabL.anc rfl trivial))), ?_⟩
 refine WT.a0 ?_
 refine Tp (.tuple #[(a94_ r96), (.int .u64 r97)]) rfl (PO.move rfl) rfl ?_
 refine Tp (a94_ r96) rfl (PO.extract rfl rfl) rfl ?_
 refine Tp (.int .u64 r97) rfl (PO.extract rfl rfl) rfl ?_
 refine WT.alt rfl (EO.alloc ze94 rfl) rfl ?_ ?_
 rintro _ _ _ - ⟨rfl, g103, rfl, rfl⟩
 refine ⟨(StabL.st (StabA.of rfl (PO.extract rfl rfl) rfl) (StabL.st (StabA.of rfl (PO.extract rfl rfl) rfl) (StabL.st (StabA.of rfl (PO.move rfl) rfl) (StabL.st (StabA.of rfl (PO.move hs82_3) rfl) (StabL.st (StabA.of rfl (PO.loadBA (cs := [(.int .i64 x72), (.int .i64 x73), (.string x74), (.int .i64 x75)]) 3 ag94 sz94 hs82_10 rfl rfl) rfl) (StabL.st (StabA.of rfl (PO.move hs82_0) rfl) trivial)))))), ?_⟩
 refine WT.alt rfl (EO.storeL (v := (a94_ r96)) (vl := (l94 r96)) (arr' := (l94 r96)) rfl sz94 rfl rfl (onesOf (Ones.cons rfl (Ones.cons rfl (Ones.cons rfl (Ones.cons rfl Ones.nil))))) rfl rfl rfl) rfl ?_ ?_
 rintro _ _ _ - ⟨rfl, rfl⟩
 refine ⟨(StabL.st (StabA.of rfl (PO.extract rfl rfl) rfl) (StabL.anc rfl (StabL.anc rfl (StabL.anc rfl (StabL.anc rfl (StabL.anc rfl trivial)))))), ?_⟩
 refine Tp (.int .u64 r97) rfl (PO.assign rfl) rfl ?_
 refine WT.fin ?_
 refine WQ.f4 ?_
 refine WQ.f1 ?_
 refine WQ.f4 ?_
 refine WQ.f4 ?_
 refine WQ.f4 ?_
 obtain rfl := Option.some.inj h
 refine WQ.thenJ ?_
 exact ⟨g103, (hle93.trans hle100), rfl, hs82_0, hs82_3, hs82_8, hs82_10, hs82_11, hs82_12, hs82_13, rfl, rfl⟩
 exact WT.no
 exact WT.no
 have h := hk95
 refine WT.alt rfl (EO.alloc ze94 rfl) rfl ?_ ?_
 rintro _ _ _ - ⟨rfl, g104, rfl, rfl⟩
 refine ⟨(StabL.st (StabA.of rfl (PO.move hs82_3) rfl) (StabL.st (StabA.of rfl (PO.loadBA (cs := [(.int .i64 x72), (.int .i64 x73), (.string x74), (.int .i64 x75)]) 3 ag94 sz94 hs82_10 rfl rfl) rfl) (StabL.st (StabA.of rfl (PO.move hs82_0) rfl) trivial))), ?_⟩
 obtain ⟨⟨r105, r106⟩, hr107, h⟩ := bnd h
 refine WT.alt rfl (EO.call0 co69 (f_ref02_num_ok a0 (⟨x72, x73, x74, x75⟩ : T_ref02_State) r90 _ _ h0 (r105, r106) hr107) (args3 rfl rfl rfl)) rfl ?_ ?_
 rintro _ M108 _ hle109 ⟨_, ⟨rfl, rfl⟩, rfl⟩
 have h0 := h0.mono hle109
 have hx70 := hx70.mono hle109
 refine ⟨(StabL.anc rfl (StabL.anc rfl (StabL.anc rfl trivial))), ?_⟩
 refine WT.a0 ?_
 refine Tp (.tuple #[(a94_ r105), (.int .u64 r106)]) rfl (PO.move rfl) rfl ?_
 refine Tp (a94_ r105) rfl (PO.extract rfl rfl) rfl ?_
 refine Tp (.int .u64 r106) rfl (PO.extract rfl rfl) rfl ?_
 refine WT.alt rfl (EO.storeL (v := (a94_ r105)) (vl := (l94 r105)) (arr' := (l94 r105)) rfl sz94 rfl rfl (onesOf (Ones.cons rfl (Ones.cons rfl (Ones.cons rfl (Ones.cons rfl Ones.nil))))) rfl rfl rfl) rfl ?_ ?_
 rintro _ _ _ - ⟨rfl, rfl⟩
 refine ⟨(StabL.st (StabA.of rfl (PO.extract rfl rfl) rfl) (StabL.anc rfl (StabL.anc rfl (StabL.anc rfl (StabL.anc rfl (StabL.anc rfl trivial)))))), ?_⟩
 refine Tp (.int .u64 r106) rfl (PO.assign rfl) rfl ?_
 refine WT.fin ?_
 refine WQ.f4 ?_
 refine WQ.f1 ?_
 refine WQ.f4 ?_
 refine WQ.f4 ?_
 refine WQ.f4 ?_
 obtain rfl := Option.some.inj h
 refine WQ.thenJ ?_
 exact ⟨g104, (hle93.trans hle109), rfl, hs82_0, hs82_3, hs82_8, hs82_10, hs82_11, hs82_12, hs82_13, rfl, rfl⟩
 exact WT.no
 exact WT.no
 exact WT.no
 have h := hk89
 refine WT.alt rfl (EO.alloc ze94 rfl) rfl ?_ ?_
 rintro _ _ _ - ⟨rfl, g112, rfl, rfl⟩
 refine ⟨(StabL.st (StabA.of rfl (PO.move hs82_3) rfl) (StabL.st (StabA.of rfl (PO.loadBA (cs := [(.int .i64 x72), (.int .i64 x73), (.string x74), (.int .i64 x75)]) 3 ag94 sz94 hs82_10 rfl rfl) rfl) (StabL.st (StabA.of rfl (PO.move hs82_0) rfl) trivial))), ?_⟩
 obtain ⟨r113, hr114, h⟩ := bnd h
 refine WT.alt rfl (EO.call0 co70 (f_ref02_above_ok a3 _ r113 hr114) (args1 rfl)) rfl ?_ ?_
 rintro _ M115 _ hle116 ⟨_, ⟨rfl, rfl⟩, rfl⟩
 have h0 := h0.mono hle116
 have hx70 := hx70.mono hle116
 refine ⟨(StabL.anc rfl (StabL.st (StabA.of rfl (PO.loadBA (cs := [(.int .i64 x72), (.int .i64 x73), (.string x74), (.int .i64 x75)]) 3 ag94 sz94 hs82_10 rfl rfl) rfl) (StabL.st (StabA.of rfl (PO.move hs82_0) rfl) trivial))), ?_⟩
 refine WT.a0 ?_
 obtain ⟨⟨r118, r119⟩, hr120, h⟩ := bnd h
 refine WT.alt rfl (EO.call0 co69 (f_ref02_num_ok a0 (⟨x72, x73, x74, x75⟩ : T_ref02_State) r113 _ _ h0 (r118, r119) hr120) (args3 rfl rfl rfl)) rfl ?_ ?_
 rintro _ M121 _ hle122 ⟨_, ⟨rfl, rfl⟩, rfl⟩
 have h0 := h0.mono hle122
 have hx70 := hx70.mono hle122
 refine ⟨(StabL.anc rfl (StabL.anc rfl (StabL.anc rfl trivial))), ?_⟩
 refine WT.a0 ?_
 refine Tp (.tuple #[(a94_ r118), (.int .u64 r119)]) rfl (PO.move rfl) rfl ?_
 refine Tp (a94_ r118) rfl (PO.extract rfl rfl) rfl ?_
 refine Tp (.int .u64 r119) rfl (PO.extract rfl rfl) rfl ?_
 refine WT.alt rfl (EO.storeL (v := (a94_ r118)) (vl := (l94 r118)) (arr' := (l94 r118)) rfl sz94 rfl rfl (onesOf (Ones.cons rfl (Ones.cons rfl (Ones.cons rfl (Ones.cons rfl Ones.nil))))) rfl rfl rfl) rfl ?_ ?_
 rintro _ _ _ - ⟨rfl, rfl⟩
 refine ⟨(StabL.st (StabA.of rfl (PO.extract rfl rfl) rfl) (StabL.anc rfl (StabL.anc rfl (StabL.anc rfl (StabL.anc rfl (StabL.anc rfl trivial)))))), ?_⟩
 refine Tp (.int .u64 r119) rfl (PO.assign rfl) rfl ?_
 refine WT.fin ?_
 refine WQ.f4 ?_
 refine WQ.f1 ?_
 refine WQ.f4 ?_
 refine WQ.f4 ?_
 refine WQ.f4 ?_
 obtain rfl := Option.some.inj h
 refine WQ.thenJ ?_
 exact ⟨g112, (hle116.trans hle122), rfl, hs82_0, hs82_3, hs82_8, hs82_10, hs82_11, hs82_12, hs82_13, rfl, rfl⟩
 exact WT.no
 exact WT.no
 exact WT.no
 exact WT.no
 obtain ⟨x86, x87⟩ := j88
 rintro ρ88 M88 H88 ⟨g85, hle88, rfl, hs88_0, hs88_3, hs88_8, hs88_10, hs88_11, hs88_12, hs88_13, hs88_14, hs88_15⟩
 have h0 := h0.mono hle88
 have hx70 := hx70.mono hle88
 refine Sr ?_
 refine Pu (a94_ x86) (PO.loadBA (cs := (l94 x86)) 3 ag94 sz94 hs88_14 rfl rfl) rfl ?_
 refine WL.f2 ?_
 refine WL.eff (EO.storeL (v := (a94_ x86)) (vl := (l94 x86)) (arr' := (l94 x86)) rfl sz94 hs88_10 rfl (onesOf (Ones.cons rfl (Ones.cons rfl (Ones.cons rfl (Ones.cons rfl Ones.nil))))) rfl rfl rfl) rfl ?_
 rintro _ _ _ - ⟨rfl, rfl⟩
 refine Nt ?_
 refine WC.region ?_
 refine Pm vx70 hs88_12 rfl ?_
 refine Pm (.int .u64 x87) hs88_15 rfl ?_
 refine Pu (.int .i64 (IntKind.i64.wrap x87)) (PO.conv us42 Tryd.underlying3 rfl) rfl ?_
 refine WL.eff (EO.buildSliceL (cl := [(.int .i64 (IntKind.i64.wrap x87))]) Tryd.underlying95 iz3 rfl (Parts.cons (congrArg Value.cells (show ev _ _ = (.int .i64 (IntKind.i64.wrap x87)) from rfl)) Parts.nil) rfl) rfl ?_
 rintro _ _ _ - ⟨rfl, g125, rfl, rfl⟩
 have h127 : OwnS (Kd.int .i64) M88 (.slice (some ⟨g125, 0, none⟩) 1 1) [IntKind.i64.wrap x87] [(g125, .cells #[(.int .i64 (IntKind.i64.wrap x87))] 3 (0, 0))] := OwnS.rows (css := [[(.int .i64 (IntKind.i64.wrap x87))]]) (Rows.cons rfl Rows.nil) rfl rfl
 obtain ⟨hg131, h⟩ := grd_i h
 refine WL.f5 ?_
 refine WL.eff (EO.append (dd := (Kd.int .i64)) (xs := x70) (ys := [IntKind.i64.wrap x87]) Tryd.underlying95 Tryd.underlying95 in3 rfl (appB (by decide) hg131) (by decide) rfl rfl hx70 (h127.src 1 rfl)) rfl ?_
 rintro v130 _ _ - ⟨rfl, c128, rfl, h129⟩
 refine Pa v130 rfl rfl ?_
 refine WL.nil ?_
 refine WQ.blockN ?_
 refine WQ.thenC ?_
 refine WC.region ?_
 refine Pm (.int .u64 x71) hs88_13 rfl ?_
 refine Pu (.int .u64 (IntKind.u64.wrap (x71 + 1))) (PO.add rfl rfl) rfl ?_
 refine Pa (.int .u64 (IntKind.u64.wrap (x71 + 1))) rfl rfl ?_
 refine WL.nil ?_
 refine WQ.f1 ?_
 refine WQ.drop ?_
 refine WQ.f4 ?_
 refine WQ.drop ?_
 refine WQ.f1 ?_
 refine WQ.f3 ?_
 refine WQ.f3 ?_
 refine WQ.again (x70 ++ [IntKind.i64.wrap x87], IntKind.u64.wrap (x71 + 1), x86.At, x86.Code, x86.Op, x86.Where) (Option.some.inj h).symm ?_
 exact ⟨v130, c128, ((hle69.trans hle82).trans hle88), rfl, hs88_0, hs88_3, hs88_8, hs88_10, hs88_11, rfl, rfl, h129⟩
 have h := ite_f hb84 h
 refine WC.exit ?_
 refine WQ.thenE ?_
 refine WQ.leaveE (x70, x72, x73, x74, x75) (Option.some.inj h).symm (fun heq69 => ?_)
 subst heq69
 have h := hK69
 refine WQ.blockH ?_
 obtain rfl := Option.some.inj h
 refine WQ.thenJ ?_
 exact ⟨vx70, cx70, (hle69.trans hle82), rfl, hs82_8, hs82_10, hs82_12, hx70⟩
 obtain ⟨x63, x64, x65, x66, x67⟩ := j68
 rintro ρ68 M68 H68 ⟨vx63, cx63, hle68, rfl, hs68_8, hs68_10, hs68_12, hx63⟩
 refine WC.seq ?_
 refine Sr ?_
 refine Pu (pt g23 1) (PO.fieldAddr fo94_1 hs68_10 rfl) rfl ?_
 refine Pu (.int .i64 x65) (PO.loadB 2 pl47 rfl rfl rfl) rfl ?_
 refine Pu (.bool (decide (x65 ≠ 0))) (PO.neq rfl rfl) rfl ?_
 refine Nt ?_
 refine WC.cond (b := decide (x65 ≠ 0)) rfl (fun hb133 => ?_) (fun hb133 => ?_)
 have h := ite_t hb133 h
 refine Sr ?_
 refine Pu (.agg #[(.int .i64 x64), (.int .i64 x65), (.string x66), (.int .i64 x67)]) (PO.loadBA (cs := [(.int .i64 x64), (.int .i64 x65), (.string x66), (.int .i64 x67)]) 2 ag94 sz94 hs68_10 rfl rfl) rfl ?_
 refine WL.eff (EO.storeL (v := (.agg #[(.int .i64 x64), (.int .i64 x65), (.string x66), (.int .i64 x67)])) (vl := [(.int .i64 x64), (.int .i64 x65), (.string x66), (.int .i64 x67)]) (arr' := [(.int .i64 x64), (.int .i64 x65), (.string x66), (.int .i64 x67)]) rfl sz94 hs68_8 rfl (onesOf (Ones.cons rfl (Ones.cons rfl (Ones.cons rfl (Ones.cons rfl Ones.nil))))) rfl rfl rfl) rfl ?_
 rintro _ _ _ - ⟨rfl, rfl⟩
 refine Pa (.slice none 0 0) rfl rfl ?_
 refine Nt ?_
 refine WC.ret ?_
 refine WQ.thenR ?_
 refine WQ.e0 ?_
 refine WQ.f2 ?_
 refine WQ.drop ?_
 refine WQ.f2 ?_
 refine WQ.drop ?_
 refine WQ.f2 ?_
 refine WQ.drop ?_
 refine WQ.f1 ?_
 exact WQ.returnsD h [[]] (fun _ hs => hs.drop) (resultsLN rfl (RVs.cons (RV.cellA (cs := [(.int .i64 x64), (.int .i64 x65), (.string x66), (.int .i64 x67)]) 0 ag94 sz94 hs68_8 rfl rfl) (RVs.cons (RV.tmp rfl) RVs.nil))) (hle26.trans hle68) ⟨(.slice none 0 0), [], rfl, rfl, (OwnS.nil _ _)⟩
 have h := ite_f hb133 h
 refine WC.skip ?_
 refine WQ.thenC ?_
 refine Sr ?_
 refine Pu (.agg #[(.int .i64 x64), (.int .i64 x65), (.string x66), (.int .i64 x67)]) (PO.loadBA (cs := [(.int .i64 x64), (.int .i64 x65), (.string x66), (.int .i64 x67)]) 2 ag94 sz94 hs68_10 rfl rfl) rfl ?_
 refine Pm vx63 hs68_12 rfl ?_
 refine WL.eff (EO.storeL (v := (.agg #[(.int .i64 x64), (.int .i64 x65), (.string x66), (.int .i64 x67)])) (vl := [(.int .i64 x64), (.int .i64 x65), (.string x66), (.int .i64 x67)]) (arr' := [(.int .i64 x64), (.int .i64 x65), (.string x66), (.int .i64 x67)]) rfl sz94 hs68_8 rfl (onesOf (Ones.cons rfl (Ones.cons rfl (Ones.cons rfl (Ones.cons rfl Ones.nil))))) rfl rfl rfl) rfl ?_
 rintro _ _ _ - ⟨rfl, rfl⟩
 refine Pa vx63 rfl rfl ?_
 refine Nt ?_
 refine WC.ret ?_
 refine WQ.f1 ?_
 refine WQ.drop ?_
 refine WQ.f1 ?_
 refine WQ.drop ?_
 exact WQ.returnsD h [cx63] (fun _ hs => hs.drop) (resultsLN rfl (RVs.cons (RV.cellA (cs := [(.int .i64 x64), (.int .i64 x65), (.string x66), (.int .i64 x67)]) 0 ag94 sz94 hs68_8 rfl rfl) (RVs.cons (RV.tmp rfl) RVs.nil))) (hle26.trans hle68) ⟨vx63, cx63, rfl, rfl, hx63⟩


end Go.Proofs.YtjiffdgidodebaaDoor.G
