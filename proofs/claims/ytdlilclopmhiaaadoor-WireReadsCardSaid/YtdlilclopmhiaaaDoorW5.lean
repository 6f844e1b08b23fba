/- Go functions: what they come to, and that they do. Printed by a program of the session (gen). -/
import Derived.Test.YtdlilclopmhiaaaDoorWF
import Derived.Test.YtdlilclopmhiaaaDoorW4
set_option linter.unusedVariables false
set_option linter.unusedSimpArgs false
namespace Go.Proofs.YtdlilclopmhiaaaDoor.G
open Go Go.KK

noncomputable def f_law02_got (a0 : T_wire_Reader) (a1 : T_ref02_Ask) : Option (T_ref02_Got × Int × GErr) :=
  (if (decide (a1.Kind = (0 : Int))) = true then (((if (decide (a1.Most < (0 : Int))) = true then (some (0 : Int)) else (some a1.Most)) : Option Int).bind fun (x24 : Int) => ((f_wire_Reader_Num a0 (IntKind.u64.wrap x24)).bind fun (r27, r28, r29) => (some ((⟨r27, false, [], []⟩ : T_ref02_Got), r28, r29)))) else (if (decide (a1.Kind = (1 : Int))) = true then ((f_wire_Reader_Int a0 a1.Most).bind fun (r37, r38, r39) => (some ((⟨IntKind.u64.wrap r37, false, [], []⟩ : T_ref02_Got), r38, r39))) else (if (decide (a1.Kind = (2 : Int))) = true then ((f_wire_Reader_Flag a0).bind fun (r47, r48, r49) => (some ((⟨(0 : Int), r47, [], []⟩ : T_ref02_Got), r48, r49))) else (if (decide (a1.Kind = (3 : Int))) = true then ((f_wire_Reader_Text a0 a1.Most).bind fun (r57, r58, r59) => (some ((⟨(0 : Int), false, r57, []⟩ : T_ref02_Got), r58, r59))) else ((f_wire_Reader_Row a0 a1.Most a1.Each).bind fun (r65, r66, r67) => (some ((⟨(0 : Int), false, [], r65⟩ : T_ref02_Got), r66, r67)))))))
def f_law02_got_post (a0 : T_wire_Reader) (a1 : T_ref02_Ask) (v0_0 : Value) (g0 : Nat) : (T_ref02_Got × Int × GErr) → Value → IM → HL → Prop :=
  fun (p_ : (T_ref02_Got × Int × GErr)) (v : Value) (M' : IM) (H' : HL) => match p_ with | (r0, r1, r2) => ∃ vz0_2 cz0_2 vz0_3 cz0_3, (.agg #[(.int .u64 r0.Num), (.bool r0.Flag), vz0_2, vz0_3]) = v ∧ H' = [[(g0, .cells #[v0_0, (.int .i64 r1), (GV r2)] 73 (0, 0))], cz0_2, cz0_3] ∧ OwnS (Kd.int .u8) M' vz0_2 r0.Text cz0_2 ∧ OwnS (Kd.int .i64) M' vz0_3 r0.Row cz0_3
set_option maxHeartbeats 8000000 in
set_option maxRecDepth 100000 in
theorem f_law02_got_ok (a0 : T_wire_Reader) (a1 : T_ref02_Ask) (M : IM) (v0_0 : Value) (g0 : Nat) (h0_0 : RS (Kd.int .u8) M v0_0 a0.b) (res : (T_ref02_Got × Int × GErr)) (h : f_law02_got a0 a1 = some res) :
    Tri Tryd.prog 30 #[(.pointer (some ⟨g0, 0, none⟩)), (.agg #[(.int .i64 a1.Kind), (.int .i64 a1.Most), (.int .i64 a1.Each)])] M [[(g0, .cells #[v0_0, (.int .i64 a0.at_), (GV a0.err)] 73 (0, 0))]] (f_law02_got_post a0 a1 v0_0 g0 res) := by
 unfold f_law02_got at h
 refine Tri.enter (fn := Tryd.f30) Tryd.func30 rfl (Nat.le_of_ble_eq_true rfl) ?_
 intro F ρ hρ
 refine Sr ?_
 refine WL.eff (EO.box (cs := #[(.int .i64 a1.Kind), (.int .i64 a1.Most), (.int .i64 a1.Each)]) (congrArg Value.cells (asE (.agg #[(.int .i64 a1.Kind), (.int .i64 a1.Most), (.int .i64 a1.Each)]) (hρ 1)))) rfl ?_
 rintro _ _ _ - ⟨rfl, g21, rfl, rfl⟩
 refine WL.eff (EO.alloc ze52 rfl) rfl ?_
 rintro _ _ _ - ⟨rfl, g22, rfl, rfl⟩
 refine Nt ?_
 refine WC.seq ?_
 refine Sr ?_
 refine Pu (.pointer (some ⟨g21, 0, none⟩)) (PO.fieldAddr fo55_0 rfl rfl) rfl ?_
 refine Pu (.int .i64 a1.Kind) (PO.loadB 1 pl3 rfl rfl rfl) rfl ?_
 refine Nt ?_
 refine WC.block ?_
 refine Sr ?_
 refine Pu (.bool (decide (a1.Kind = (0 : Int)))) (PO.eql rfl rfl) rfl ?_
 refine Pa (.bool (decide (a1.Kind = (0 : Int)))) rfl rfl ?_
 refine Nt ?_
 refine WC.cond (b := decide (a1.Kind = (0 : Int))) rfl (fun hb23 => ?_) (fun hb23 => ?_)
 have h := ite_t hb23 h
 refine Sr ?_
 refine Pu (.pointer (some ⟨g21, 1, none⟩)) (PO.fieldAddr fo55_1 rfl rfl) rfl ?_
 refine Pu (.int .i64 a1.Most) (PO.loadB 1 pl3 rfl rfl rfl) rfl ?_
 refine Pa (.int .i64 a1.Most) rfl rfl ?_
 refine Nt ?_
 obtain ⟨x24, hj25, h⟩ := bnd h
 refine WC.joinF (fun (x24 : Int) ρ' M' H' => M.le M' ∧ [(g22, .cells #[(.int .u64 (0 : Int)), (.bool false), (.slice none 0 0), (.slice none 0 0)] 52 (0, 0))] :: [(g21, .cells #[(.int .i64 a1.Kind), (.int .i64 a1.Most), (.int .i64 a1.Each)] 55 (0, 0))] :: [(g0, .cells #[v0_0, (.int .i64 a0.at_), (GV a0.err)] 73 (0, 0))] :: F = H' ∧ ρ' 0 = (.pointer (some ⟨g0, 0, none⟩)) ∧ ρ' 4 = (.pointer (some ⟨g22, 0, none⟩)) ∧ ρ' 5 = (.int .i64 x24)) x24 ?_ ?_
 have h325 := h
 have h := hj25
 refine Sr ?_
 refine Pm (.int .i64 a1.Most) rfl rfl ?_
 refine Pu (.bool (decide (a1.Most < (0 : Int)))) (PO.lss rfl rfl) rfl ?_
 refine Nt ?_
 refine WC.cond (b := decide (a1.Most < (0 : Int))) rfl (fun hb26 => ?_) (fun hb26 => ?_)
 have h := ite_t hb26 h
 refine WC.region ?_
 refine Pa (.int .i64 (0 : Int)) rfl rfl ?_
 refine WL.nil ?_
 obtain rfl := Option.some.inj h
 refine WQ.thenJ ?_
 exact ⟨(IM.le.refl _), rfl, (hρ 0), rfl, rfl⟩
 have h := ite_f hb26 h
 refine WC.skip ?_
 obtain rfl := Option.some.inj h
 refine WQ.thenJ ?_
 exact ⟨(IM.le.refl _), rfl, (hρ 0), rfl, rfl⟩
 rintro ρ25 M25 H25 ⟨hle25, rfl, hs25_0, hs25_4, hs25_5⟩
 have h0_0 := h0_0.mono hle25
 refine Sr ?_
 refine Pm (.pointer (some ⟨g0, 0, none⟩)) hs25_0 rfl ?_
 refine Pm (.int .i64 x24) hs25_5 rfl ?_
 refine Pu (.int .u64 (IntKind.u64.wrap x24)) (PO.conv us3 Tryd.underlying23 rfl) rfl ?_
 obtain ⟨⟨r27, r28, r29⟩, hr30, h⟩ := bnd h
 refine WL.f2 ?_
 refine WL.eff (EO.call1 co21 (f_wire_Reader_Num_ok a0 (IntKind.u64.wrap x24) _ _ _ h0_0 (r27, r28, r29) hr30) (args2 rfl rfl)) rfl ?_
 rintro _ M31 _ hle32 ⟨_, ⟨rfl, rfl⟩, rfl⟩
 have h0_0 := h0_0.mono hle32
 refine WL.a1 ?_
 refine Pu (.agg #[(.int .u64 r27), (.bool false), (.slice none 0 0), (.slice none 0 0)]) (PO.buildL (cl := [(.int .u64 r27), (.bool false), (.slice none 0 0), (.slice none 0 0)]) ze52 fp52 (Parts.cons (congrArg Value.cells (show ev _ _ = (.int .u64 r27) from rfl)) Parts.nil) rfl) rfl ?_
 refine WL.f1 ?_
 refine WL.eff (EO.storeL (v := (.agg #[(.int .u64 r27), (.bool false), (.slice none 0 0), (.slice none 0 0)])) (vl := [(.int .u64 r27), (.bool false), (.slice none 0 0), (.slice none 0 0)]) (arr' := [(.int .u64 r27), (.bool false), (.slice none 0 0), (.slice none 0 0)]) rfl sz52 hs25_4 rfl (onesOf (Ones.cons rfl (Ones.cons rfl (Ones.cons rfl (Ones.cons rfl Ones.nil))))) rfl rfl rfl) rfl ?_
 rintro _ _ _ - ⟨rfl, rfl⟩
 refine Nt ?_
 refine WC.ret ?_
 refine WQ.blockR ?_
 refine WQ.thenR ?_
 refine WQ.e0 ?_
 refine WQ.e0 ?_
 refine WQ.f4 ?_
 refine WQ.drop ?_
 refine WQ.f1 ?_
 refine WQ.f3 ?_
 refine WQ.f3 ?_
 exact WQ.returnsD h [[(g0, .cells #[v0_0, (.int .i64 r28), (GV r29)] 73 (0, 0))], [], []] (fun _ hs => hs.drop) (resultsL1 rfl (RV.cellA (cs := [(.int .u64 r27), (.bool false), (.slice none 0 0), (.slice none 0 0)]) 0 ag52 sz52 hs25_4 rfl rfl)) (hle25.trans hle32) ⟨(.slice none 0 0), [], (.slice none 0 0), [], rfl, rfl, (OwnS.nil _ _), (OwnS.nil _ _)⟩
 have h := ite_f hb23 h
 refine Sr ?_
 refine Pu (.bool (decide (a1.Kind = (1 : Int)))) (PO.eql rfl rfl) rfl ?_
 refine Pa (.bool (decide (a1.Kind = (1 : Int)))) rfl rfl ?_
 refine Nt ?_
 refine WC.cond (b := decide (a1.Kind = (1 : Int))) rfl (fun hb36 => ?_) (fun hb36 => ?_)
 have h := ite_t hb36 h
 refine Sr ?_
 refine Pm (.pointer (some ⟨g0, 0, none⟩)) (hρ 0) rfl ?_
 refine Pu (.pointer (some ⟨g21, 1, none⟩)) (PO.fieldAddr fo55_1 rfl rfl) rfl ?_
 refine Pu (.int .i64 a1.Most) (PO.loadB 1 pl3 rfl rfl rfl) rfl ?_
 obtain ⟨⟨r37, r38, r39⟩, hr40, h⟩ := bnd h
 refine WL.f2 ?_
 refine WL.eff (EO.call1 co22 (f_wire_Reader_Int_ok a0 a1.Most _ _ _ h0_0 (r37, r38, r39) hr40) (args2 rfl rfl)) rfl ?_
 rintro _ M41 _ hle42 ⟨_, ⟨rfl, rfl⟩, rfl⟩
 have h0_0 := h0_0.mono hle42
 refine WL.a1 ?_
 refine Pu (.int .u64 (IntKind.u64.wrap r37)) (PO.conv us3 Tryd.underlying23 rfl) rfl ?_
 refine Pu (.agg #[(.int .u64 (IntKind.u64.wrap r37)), (.bool false), (.slice none 0 0), (.slice none 0 0)]) (PO.buildL (cl := [(.int .u64 (IntKind.u64.wrap r37)), (.bool false), (.slice none 0 0), (.slice none 0 0)]) ze52 fp52 (Parts.cons (congrArg Value.cells (show ev _ _ = (.int .u64 (IntKind.u64.wrap r37)) from rfl)) Parts.nil) rfl) rfl ?_
 refine WL.f1 ?_
 refine WL.eff (EO.storeL (v := (.agg #[(.int .u64 (IntKind.u64.wrap r37)), (.bool false), (.slice none 0 0), (.slice none 0 0)])) (vl := [(.int .u64 (IntKind.u64.wrap r37)), (.bool false), (.slice none 0 0), (.slice none 0 0)]) (arr' := [(.int .u64 (IntKind.u64.wrap r37)), (.bool false), (.slice none 0 0), (.slice none 0 0)]) rfl sz52 rfl rfl (onesOf (Ones.cons rfl (Ones.cons rfl (Ones.cons rfl (Ones.cons rfl Ones.nil))))) rfl rfl rfl) rfl ?_
 rintro _ _ _ - ⟨rfl, rfl⟩
 refine Nt ?_
 refine WC.ret ?_
 refine WQ.blockR ?_
 refine WQ.thenR ?_
 refine WQ.e0 ?_
 refine WQ.e0 ?_
 refine WQ.f4 ?_
 refine WQ.drop ?_
 refine WQ.f1 ?_
 refine WQ.f3 ?_
 refine WQ.f3 ?_
 exact WQ.returnsD h [[(g0, .cells #[v0_0, (.int .i64 r38), (GV r39)] 73 (0, 0))], [], []] (fun _ hs => hs.drop) (resultsL1 rfl (RV.cellA (cs := [(.int .u64 (IntKind.u64.wrap r37)), (.bool false), (.slice none 0 0), (.slice none 0 0)]) 0 ag52 sz52 rfl rfl rfl)) hle42 ⟨(.slice none 0 0), [], (.slice none 0 0), [], rfl, rfl, (OwnS.nil _ _), (OwnS.nil _ _)⟩
 have h := ite_f hb36 h
 refine Sr ?_
 refine Pu (.bool (decide (a1.Kind = (2 : Int)))) (PO.eql rfl rfl) rfl ?_
 refine Pa (.bool (decide (a1.Kind = (2 : Int)))) rfl rfl ?_
 refine Nt ?_
 refine WC.cond (b := decide (a1.Kind = (2 : Int))) rfl (fun hb46 => ?_) (fun hb46 => ?_)
 have h := ite_t hb46 h
 refine Sr ?_
 refine Pm (.pointer (some ⟨g0, 0, none⟩)) (hρ 0) rfl ?_
 obtain ⟨⟨r47, r48, r49⟩, hr50, h⟩ := bnd h
 refine WL.f2 ?_
 refine WL.eff (EO.call1 co23 (f_wire_Reader_Flag_ok a0 _ _ _ h0_0 (r47, r48, r49) hr50) (args1 rfl)) rfl ?_
 rintro _ M51 _ hle52 ⟨_, ⟨rfl, rfl⟩, rfl⟩
 have h0_0 := h0_0.mono hle52
 refine WL.a1 ?_
 refine Pu (.agg #[(.int .u64 (0 : Int)), (.bool r47), (.slice none 0 0), (.slice none 0 0)]) (PO.buildL (cl := [(.int .u64 (0 : Int)), (.bool r47), (.slice none 0 0), (.slice none 0 0)]) ze52 fp52 (Parts.cons (congrArg Value.cells (show ev _ _ = (.bool r47) from rfl)) Parts.nil) rfl) rfl ?_
 refine WL.f1 ?_
 refine WL.eff (EO.storeL (v := (.agg #[(.int .u64 (0 : Int)), (.bool r47), (.slice none 0 0), (.slice none 0 0)])) (vl := [(.int .u64 (0 : Int)), (.bool r47), (.slice none 0 0), (.slice none 0 0)]) (arr' := [(.int .u64 (0 : Int)), (.bool r47), (.slice none 0 0), (.slice none 0 0)]) rfl sz52 rfl rfl (onesOf (Ones.cons rfl (Ones.cons rfl (Ones.cons rfl (Ones.cons rfl Ones.nil))))) rfl rfl rfl) rfl ?_
 rintro _ _ _ - ⟨rfl, rfl⟩
 refine Nt ?_
 refine WC.ret ?_
 refine WQ.blockR ?_
 refine WQ.thenR ?_
 refine WQ.e0 ?_
 refine WQ.e0 ?_
 refine WQ.f4 ?_
 refine WQ.drop ?_
 refine WQ.f1 ?_
 refine WQ.f3 ?_
 refine WQ.f3 ?_
 exact WQ.returnsD h [[(g0, .cells #[v0_0, (.int .i64 r48), (GV r49)] 73 (0, 0))], [], []] (fun _ hs => hs.drop) (resultsL1 rfl (RV.cellA (cs := [(.int .u64 (0 : Int)), (.bool r47), (.slice none 0 0), (.slice none 0 0)]) 0 ag52 sz52 rfl rfl rfl)) hle52 ⟨(.slice none 0 0), [], (.slice none 0 0), [], rfl, rfl, (OwnS.nil _ _), (OwnS.nil _ _)⟩
 have h := ite_f hb46 h
 refine Sr ?_
 refine Pu (.bool (decide (a1.Kind = (3 : Int)))) (PO.eql rfl rfl) rfl ?_
 refine Pa (.bool (decide (a1.Kind = (3 : Int)))) rfl rfl ?_
 refine Nt ?_
 refine WC.cond (b := decide (a1.Kind = (3 : Int))) rfl (fun hb56 => ?_) (fun hb56 => ?_)
 have h := ite_t hb56 h
 refine Sr ?_
 refine Pm (.pointer (some ⟨g0, 0, none⟩)) (hρ 0) rfl ?_
 refine Pu (.pointer (some ⟨g21, 1, none⟩)) (PO.fieldAddr fo55_1 rfl rfl) rfl ?_
 refine Pu (.int .i64 a1.Most) (PO.loadB 1 pl3 rfl rfl rfl) rfl ?_
 obtain ⟨⟨r57, r58, r59⟩, hr60, h⟩ := bnd h
 refine WL.f2 ?_
 refine WL.eff (EO.call1 co24 (f_wire_Reader_Text_ok a0 a1.Most _ _ _ h0_0 (r57, r58, r59) hr60) (args2 rfl rfl)) rfl ?_
 rintro _ M61 _ hle62 ⟨_, ⟨vq63, cq63, rfl, rfl, hq63⟩, rfl⟩
 have h0_0 := h0_0.mono hle62
 refine WL.a2 ?_
 refine Pu (.agg #[(.int .u64 (0 : Int)), (.bool false), vq63, (.slice none 0 0)]) (PO.buildL (cl := [(.int .u64 (0 : Int)), (.bool false), vq63, (.slice none 0 0)]) ze52 fp52 (Parts.cons ((congrArg Value.cells (show ev _ _ = vq63 from rfl)).trans hq63.cells) Parts.nil) rfl) rfl ?_
 refine WL.f2 ?_
 refine WL.eff (EO.storeL (v := (.agg #[(.int .u64 (0 : Int)), (.bool false), vq63, (.slice none 0 0)])) (vl := [(.int .u64 (0 : Int)), (.bool false), vq63, (.slice none 0 0)]) (arr' := [(.int .u64 (0 : Int)), (.bool false), vq63, (.slice none 0 0)]) rfl sz52 rfl rfl (onesOf (Ones.cons rfl (Ones.cons rfl (Ones.cons (OwnS.one hq63) (Ones.cons rfl Ones.nil))))) rfl rfl rfl) rfl ?_
 rintro _ _ _ - ⟨rfl, rfl⟩
 refine Nt ?_
 refine WC.ret ?_
 refine WQ.blockR ?_
 refine WQ.thenR ?_
 refine WQ.e0 ?_
 refine WQ.f4 ?_
 refine WQ.drop ?_
 refine WQ.f3 ?_
 refine WQ.f3 ?_
 refine WQ.f3 ?_
 exact WQ.returnsD h [[(g0, .cells #[v0_0, (.int .i64 r58), (GV r59)] 73 (0, 0))], cq63, []] (fun _ hs => hs.drop) (resultsL1 rfl (RV.cellA (cs := [(.int .u64 (0 : Int)), (.bool false), vq63, (.slice none 0 0)]) 0 ag52 sz52 rfl rfl rfl)) hle62 ⟨vq63, cq63, (.slice none 0 0), [], rfl, rfl, hq63, (OwnS.nil _ _)⟩
 have h := ite_f hb56 h
 refine WC.skip ?_
 refine WQ.blockN ?_
 refine WQ.thenC ?_
 refine Sr ?_
 refine Pm (.pointer (some ⟨g0, 0, none⟩)) (hρ 0) rfl ?_
 refine Pu (.pointer (some ⟨g21, 1, none⟩)) (PO.fieldAddr fo55_1 rfl rfl) rfl ?_
 refine Pu (.int .i64 a1.Most) (PO.loadB 1 pl3 rfl rfl rfl) rfl ?_
 refine Pu (.pointer (some ⟨g21, 2, none⟩)) (PO.fieldAddr fo55_2 rfl rfl) rfl ?_
 refine Pu (.int .i64 a1.Each) (PO.loadB 1 pl3 rfl rfl rfl) rfl ?_
 obtain ⟨⟨r65, r66, r67⟩, hr68, h⟩ := bnd h
 refine WL.f2 ?_
 refine WL.eff (EO.call1 co26 (f_wire_Reader_Row_ok a0 a1.Most a1.Each _ _ _ h0_0 (r65, r66, r67) hr68) (args3 rfl rfl rfl)) rfl ?_
 rintro _ M69 _ hle70 ⟨_, ⟨vq71, cq71, rfl, rfl, hq71⟩, rfl⟩
 have h0_0 := h0_0.mono hle70
 refine WL.a2 ?_
 refine Pu (.agg #[(.int .u64 (0 : Int)), (.bool false), (.slice none 0 0), vq71]) (PO.buildL (cl := [(.int .u64 (0 : Int)), (.bool false), (.slice none 0 0), vq71]) ze52 fp52 (Parts.cons ((congrArg Value.cells (show ev _ _ = vq71 from rfl)).trans hq71.cells) Parts.nil) rfl) rfl ?_
 refine WL.f2 ?_
 refine WL.eff (EO.storeL (v := (.agg #[(.int .u64 (0 : Int)), (.bool false), (.slice none 0 0), vq71])) (vl := [(.int .u64 (0 : Int)), (.bool false), (.slice none 0 0), vq71]) (arr' := [(.int .u64 (0 : Int)), (.bool false), (.slice none 0 0), vq71]) rfl sz52 rfl rfl (onesOf (Ones.cons rfl (Ones.cons rfl (Ones.cons rfl (Ones.cons (OwnS.one hq71) Ones.nil))))) rfl rfl rfl) rfl ?_
 rintro _ _ _ - ⟨rfl, rfl⟩
 refine Nt ?_
 refine WC.ret ?_
 refine WQ.e0 ?_
 refine WQ.f4 ?_
 refine WQ.drop ?_
 refine WQ.f3 ?_
 refine WQ.f1 ?_
 refine WQ.f3 ?_
 refine WQ.f3 ?_
 exact WQ.returnsD h [[(g0, .cells #[v0_0, (.int .i64 r66), (GV r67)] 73 (0, 0))], [], cq71] (fun _ hs => hs.drop) (resultsL1 rfl (RV.cellA (cs := [(.int .u64 (0 : Int)), (.bool false), (.slice none 0 0), vq71]) 0 ag52 sz52 rfl rfl rfl)) hle70 ⟨(.slice none 0 0), [], vq71, cq71, rfl, rfl, (OwnS.nil _ _), hq71⟩

noncomputable def f_errors_as_code_l0 (a1 : Int) (s_ : GErr) : Option (GErr ⊕ (Bool × Int)) :=
  match s_ with
  | x23 =>
    (match x23 with | .nil => none | .code n26 => (some (Sum.inr (true, n26))) | .fault o27 a28 e29 => ((f_api_Fault_Unwrap (⟨o27, a28, e29⟩ : T_api_Fault)).bind fun (r32 : GErr) => (if r32.isNil = true then (some (Sum.inr (false, a1))) else (some (Sum.inl r32)))) | .other b30 => (some (Sum.inr (false, a1))))
noncomputable def f_errors_as_code (a0 : GErr) (a1 : Int) : Option (Bool × Int) :=
  ((iter (f_errors_as_code_l0 a1) a0).bind (fun (x24, x25) => (some (x24, x25))))
def f_errors_as_code_post (a0 : GErr) (a1 : Int) (g1 g2 : Nat) : (Bool × Int) → Value → IM → HL → Prop :=
  fun (p_ : (Bool × Int)) (v : Value) (M' : IM) (H' : HL) => match p_ with | (r0, r1) => (.bool r0) = v ∧ H' = [[(g1, .cells #[(.int .i64 r1)] 56 (0, 0))], [(g2, .cells #[(.pointer (some ⟨g1, 0, none⟩))] 76 (0, 0))]]
set_option maxHeartbeats 8000000 in
set_option maxRecDepth 100000 in
theorem f_errors_as_code_ok (a0 : GErr) (a1 : Int) (M : IM) (g1 g2 : Nat) (res : (Bool × Int)) (h : f_errors_as_code a0 a1 = some res) :
    Tri Tryd.prog 54 #[(GV a0), (.iface 76 (.pointer (some ⟨g1, 0, none⟩))), (.agg #[(.pointer (some ⟨1, 76, none⟩)), (.pointer (some ⟨g2, 0, none⟩)), (.int .u64 (150 : Int))]), (.iface 108 (.agg #[.pointer (some ⟨1, 56, none⟩)]))] M [[(g1, .cells #[(.int .i64 a1)] 56 (0, 0))], [(g2, .cells #[(.pointer (some ⟨g1, 0, none⟩))] 76 (0, 0))]] (f_errors_as_code_post a0 a1 g1 g2 res) := by
 unfold f_errors_as_code at h
 refine Tri.enter (fn := Tryd.f54) Tryd.func54 rfl (Nat.le_of_ble_eq_true rfl) ?_
 intro F ρ hρ
 refine Sr ?_
 refine WL.eff (EO.box (cs := #[(.pointer (some ⟨1, 76, none⟩)), (.pointer (some ⟨g2, 0, none⟩)), (.int .u64 (150 : Int))]) (congrArg Value.cells (asE (.agg #[(.pointer (some ⟨1, 76, none⟩)), (.pointer (some ⟨g2, 0, none⟩)), (.int .u64 (150 : Int))]) (hρ 2)))) rfl ?_
 rintro _ _ _ - ⟨rfl, g21, rfl, rfl⟩
 refine Pa (.bool false) rfl rfl ?_
 refine Nt ?_
 refine WC.block ?_
 obtain ⟨e22, he22, hK22⟩ := bnd h
 clear h
 refine WC.loop he22 (fun (x23 : GErr) ρ' M' H' => M.le M' ∧ [(g21, .cells #[(.pointer (some ⟨1, 76, none⟩)), (.pointer (some ⟨g2, 0, none⟩)), (.int .u64 (150 : Int))] 94 (0, 0))] :: [(g1, .cells #[(.int .i64 a1)] 56 (0, 0))] :: [(g2, .cells #[(.pointer (some ⟨g1, 0, none⟩))] 76 (0, 0))] :: F = H' ∧ ρ' 0 = (GV x23) ∧ ρ' 1 = (.iface 76 (.pointer (some ⟨g1, 0, none⟩))) ∧ ρ' 3 = (.iface 108 (.agg #[.pointer (some ⟨1, 56, none⟩)])) ∧ ρ' 6 = (.pointer (some ⟨g21, 0, none⟩))) ?_ ?_
 exact ⟨(IM.le.refl _), rfl, (hρ 0), (hρ 1), (hρ 3), rfl⟩
 rintro x23 o22 ρ22 M22 H22 h ⟨hle22, rfl, hs22_0, hs22_1, hs22_3, hs22_6⟩
 unfold f_errors_as_code_l0 at h
 refine WC.block ?_
 refine WC.seq ?_
 refine Sr ?_
 refine Pm (GV x23) hs22_0 rfl ?_
 rcases x23 with _ | n26 | ⟨o27, a28, e29⟩ | b30
 refine WL.eff (EO.extP xt56 (args1 (show ev _ _ = .nilIface from rfl)) tyNil) rfl ?_
 rintro _ _ _ - ⟨rfl, rfl, rfl⟩
 refine Pm (.iface 108 (.agg #[.pointer (some ⟨1, 56, none⟩)])) hs22_3 rfl ?_
 exact nones h
 refine WL.eff (EO.extP xt56 (args1 (show ev _ _ = (.iface 56 (.int .i64 n26)) from rfl)) (ty56 _)) rfl ?_
 rintro _ _ _ - ⟨rfl, rfl, rfl⟩
 refine Pm (.iface 108 (.agg #[.pointer (some ⟨1, 56, none⟩)])) hs22_3 rfl ?_
 refine WL.eff (EO.invE (show ev _ _ = (.iface 108 (.agg #[.pointer (some ⟨1, 56, none⟩)])) from rfl) (mm_AssignableTo (.pointer (some ⟨1, 56, none⟩))) xt84 (inv1 rfl) mr_AssignableTo_56_56) rfl ?_
 rintro _ _ _ - ⟨rfl, rfl, rfl⟩
 refine Nt ?_
 refine WC.condT (b := true) rfl rfl ?_
 refine Sr ?_
 refine Pu (.agg #[(.pointer (some ⟨1, 76, none⟩)), (.pointer (some ⟨g2, 0, none⟩)), (.int .u64 (150 : Int))]) (PO.loadBA (cs := [(.pointer (some ⟨1, 76, none⟩)), (.pointer (some ⟨g2, 0, none⟩)), (.int .u64 (150 : Int))]) 0 ag94 sz94 hs22_6 rfl rfl) rfl ?_
 refine WL.eff (EO.rvElem (r := fun p => .agg #[(.pointer (some ⟨1, 56, none⟩)), .pointer (some p), .int .u64 386]) 2 xt58 pp76_150 rfl pl76 el76 mk56 (args1 (show ev _ _ = (.agg #[(.pointer (some ⟨1, 76, none⟩)), (.pointer (some ⟨g2, 0, none⟩)), (.int .u64 (150 : Int))]) from rfl)) rfl) rfl ?_
 rintro _ _ _ - ⟨rfl, rfl, rfl⟩
 refine Pm (GV (GErr.code n26)) hs22_0 rfl ?_
 refine WL.eff (EO.valueOf xt51 (args1 (show ev _ _ = (.iface 56 (.int .i64 n26)) from rfl)) (vo56 n26)) rfl ?_
 rintro _ _ _ - ⟨rfl, g31, rfl, rfl⟩
 refine WL.f2 ?_
 refine WL.eff (EO.rvSet (arr := [(.int .i64 a1)]) (vl := [(.int .i64 n26)]) (v := (.int .i64 n26)) xt59 pp56_386 pp56_130 rfl da56 (args2 (show ev _ _ = (.agg #[(.pointer (some ⟨1, 56, none⟩)), (.pointer (some ⟨g1, 0, none⟩)), (.int .u64 (386 : Int))]) from rfl) (show ev _ _ = (.agg #[(.pointer (some ⟨1, 56, none⟩)), (.pointer (some ⟨g31, 0, none⟩)), (.int .u64 (130 : Int))]) from rfl)) (fun _ hs => run_loadPlain pl56 (hs.cellC 1 rfl (chunkCell_lit.trans rfl))) rfl sz56 rfl (onesOf (Ones.cons rfl Ones.nil))) rfl ?_
 rintro _ _ _ - ⟨rfl, rfl, rfl⟩
 refine Ns ?_
 refine Pa (.bool true) rfl rfl ?_
 refine Nt ?_
 refine WC.ret ?_
 refine WQ.thenR ?_
 refine WQ.blockR ?_
 refine WQ.leaveR (true, n26) (Option.some.inj h).symm (fun heq22 => ?_)
 subst heq22
 have h := hK22
 refine WQ.blockR ?_
 refine WQ.f1 ?_
 refine WQ.drop ?_
 refine WQ.f1 ?_
 refine WQ.drop ?_
 exact WQ.returnsF h [[(g1, .cells #[(.int .i64 n26)] 56 (0, 0))], [(g2, .cells #[(.pointer (some ⟨g1, 0, none⟩))] 76 (0, 0))]] rfl (results1 rfl rfl) hle22 ⟨rfl, rfl⟩
 refine WL.eff (EO.extP xt56 (args1 (show ev _ _ = (.iface 78 (.agg #[.string o27, .int .i64 a28, GV e29])) from rfl)) (ty78 _)) rfl ?_
 rintro _ _ _ - ⟨rfl, rfl, rfl⟩
 refine Pm (.iface 108 (.agg #[.pointer (some ⟨1, 56, none⟩)])) hs22_3 rfl ?_
 refine WL.eff (EO.invE (show ev _ _ = (.iface 108 (.agg #[.pointer (some ⟨1, 78, none⟩)])) from rfl) (mm_AssignableTo (.pointer (some ⟨1, 78, none⟩))) xt84 (inv1 rfl) mr_AssignableTo_78_56) rfl ?_
 rintro _ _ _ - ⟨rfl, rfl, rfl⟩
 refine Nt ?_
 refine WC.condF (b := false) rfl rfl ?_
 refine WC.skip ?_
 refine WQ.thenC ?_
 refine WC.seq ?_
 refine Sr ?_
 refine Pm (GV (GErr.fault o27 a28 e29)) hs22_0 rfl ?_
 refine Pu (.tuple #[.nilIface, (.bool false)]) (PO.asserts (show ev _ _ = (.iface 78 (.agg #[.string o27, .int .i64 a28, GV e29])) from rfl) (la78_112 _ _)) rfl ?_
 refine Pm (.tuple #[.nilIface, (.bool false)]) rfl rfl ?_
 refine Pu .nilIface (PO.extract rfl rfl) rfl ?_
 refine Pu (.bool false) (PO.extract rfl rfl) rfl ?_
 refine Pa .nilIface rfl rfl ?_
 refine Pa (.bool false) rfl rfl ?_
 refine Ns ?_
 refine Pm (.bool false) rfl rfl ?_
 refine Pm (.bool false) rfl rfl ?_
 iterate 3 refine Of 31 rfl rfl rfl rfl ?_
 refine Pu (.bool false) (PO.pickF rfl rfl rfl) rfl ?_
 refine Nt ?_
 refine WC.condF (b := false) rfl rfl ?_
 refine WC.skip ?_
 refine WQ.thenC ?_
 refine Sr ?_
 refine Pm (GV (GErr.fault o27 a28 e29)) hs22_0 rfl ?_
 refine Nt ?_
 refine WC.block ?_
 refine Sr ?_
 refine Pu (.tuple #[(GV (GErr.fault o27 a28 e29)), (.bool true)]) (PO.asserts (show ev _ _ = (.iface 78 (.agg #[.string o27, .int .i64 a28, GV e29])) from rfl) (ha78_115 _ _)) rfl ?_
 refine Pu (.bool true) (PO.extract rfl rfl) rfl ?_
 refine Pu (GV (GErr.fault o27 a28 e29)) (PO.extract rfl rfl) rfl ?_
 refine Nt ?_
 refine WC.condT (b := true) rfl rfl ?_
 refine Sr ?_
 refine Pa (GV (GErr.fault o27 a28 e29)) rfl rfl ?_
 refine Ns ?_
 refine Pm (GV (GErr.fault o27 a28 e29)) rfl rfl ?_
 obtain ⟨r32, hr33, h⟩ := bnd h
 refine WL.eff (EO.invT (show ev _ _ = (.iface 78 (.agg #[.string o27, .int .i64 a28, GV e29])) from rfl) (me78_Unwrap _) co79 inv0 (f_api_Fault_Unwrap_ok (⟨o27, a28, e29⟩ : T_api_Fault) _ r32 hr33)) rfl ?_
 rintro _ M34 _ hle35 ⟨_, ⟨rfl, rfl⟩, rfl⟩
 refine WL.a0 ?_
 refine Pa (GV r32) rfl rfl ?_
 refine Ns ?_
 refine Pm (GV r32) rfl rfl ?_
 refine Pu (.bool r32.isNil) (PO.errNil Tryd.underlying45 rfl) rfl ?_
 refine Nt ?_
 refine WC.cond (b := r32.isNil) rfl (fun hb37 => ?_) (fun hb37 => ?_)
 have h := ite_t hb37 h
 refine Sr ?_
 refine Pa (.bool false) rfl rfl ?_
 refine Nt ?_
 refine WC.ret ?_
 refine WQ.blockR ?_
 refine WQ.blockR ?_
 refine WQ.leaveR (false, a1) (Option.some.inj h).symm (fun heq22 => ?_)
 subst heq22
 have h := hK22
 refine WQ.blockR ?_
 refine WQ.drop ?_
 exact WQ.returnsF h [[(g1, .cells #[(.int .i64 a1)] 56 (0, 0))], [(g2, .cells #[(.pointer (some ⟨g1, 0, none⟩))] 76 (0, 0))]] rfl (results1 rfl rfl) (hle22.trans hle35) ⟨rfl, rfl⟩
 have h := ite_f hb37 h
 refine WC.skip ?_
 refine WQ.blockN ?_
 refine WQ.blockN ?_
 refine WQ.again r32 (Option.some.inj h).symm ?_
 exact ⟨(hle22.trans hle35), rfl, rfl, hs22_1, hs22_3, hs22_6⟩
 refine WL.eff (EO.extP xt56 (args1 (show ev _ _ = (.iface 0 (.pointer (some b30))) from rfl)) (ty0 _)) rfl ?_
 rintro _ _ _ - ⟨rfl, rfl, rfl⟩
 refine Pm (.iface 108 (.agg #[.pointer (some ⟨1, 56, none⟩)])) hs22_3 rfl ?_
 refine WL.eff (EO.invE (show ev _ _ = (.iface 108 (.agg #[.pointer (some ⟨1, 0, none⟩)])) from rfl) (mm_AssignableTo (.pointer (some ⟨1, 0, none⟩))) xt84 (inv1 rfl) mr_AssignableTo_0_56) rfl ?_
 rintro _ _ _ - ⟨rfl, rfl, rfl⟩
 refine Nt ?_
 refine WC.condF (b := false) rfl rfl ?_
 refine WC.skip ?_
 refine WQ.thenC ?_
 refine WC.seq ?_
 refine Sr ?_
 refine Pm (GV (GErr.other b30)) hs22_0 rfl ?_
 refine Pu (.tuple #[.nilIface, (.bool false)]) (PO.asserts (show ev _ _ = (.iface 0 (.pointer (some b30))) from rfl) (la0_112 _ _)) rfl ?_
 refine Pm (.tuple #[.nilIface, (.bool false)]) rfl rfl ?_
 refine Pu .nilIface (PO.extract rfl rfl) rfl ?_
 refine Pu (.bool false) (PO.extract rfl rfl) rfl ?_
 refine Pa .nilIface rfl rfl ?_
 refine Pa (.bool false) rfl rfl ?_
 refine Ns ?_
 refine Pm (.bool false) rfl rfl ?_
 refine Pm (.bool false) rfl rfl ?_
 iterate 3 refine Of 31 rfl rfl rfl rfl ?_
 refine Pu (.bool false) (PO.pickF rfl rfl rfl) rfl ?_
 refine Nt ?_
 refine WC.condF (b := false) rfl rfl ?_
 refine WC.skip ?_
 refine WQ.thenC ?_
 refine Sr ?_
 refine Pm (GV (GErr.other b30)) hs22_0 rfl ?_
 refine Nt ?_
 refine WC.block ?_
 refine Sr ?_
 refine Pu (.tuple #[.nilIface, (.bool false)]) (PO.asserts (show ev _ _ = (.iface 0 (.pointer (some b30))) from rfl) (la0_115 _ _)) rfl ?_
 refine Pu (.bool false) (PO.extract rfl rfl) rfl ?_
 refine Pu .nilIface (PO.extract rfl rfl) rfl ?_
 refine Nt ?_
 refine WC.condF (b := false) rfl rfl ?_
 refine Sr ?_
 refine Pu (.tuple #[.nilIface, (.bool false)]) (PO.asserts (show ev _ _ = (.iface 0 (.pointer (some b30))) from rfl) (la0_116 _ _)) rfl ?_
 refine Pu (.bool false) (PO.extract rfl rfl) rfl ?_
 refine Pu .nilIface (PO.extract rfl rfl) rfl ?_
 refine Nt ?_
 refine WC.condF (b := false) rfl rfl ?_
 refine Sr ?_
 refine Pa (GV (GErr.other b30)) rfl rfl ?_
 refine Ns ?_
 refine Pa (.bool false) rfl rfl ?_
 refine Nt ?_
 refine WC.ret ?_
 refine WQ.blockR ?_
 refine WQ.blockR ?_
 refine WQ.leaveR (false, a1) (Option.some.inj h).symm (fun heq22 => ?_)
 subst heq22
 have h := hK22
 refine WQ.blockR ?_
 refine WQ.drop ?_
 exact WQ.returnsF h [[(g1, .cells #[(.int .i64 a1)] 56 (0, 0))], [(g2, .cells #[(.pointer (some ⟨g1, 0, none⟩))] 76 (0, 0))]] rfl (results1 rfl rfl) hle22 ⟨rfl, rfl⟩

noncomputable def f_errors_As_code (a0 : GErr) (a1 : Int) : Option (Bool × Int) :=
  (if a0.isNil = true then (some (false, a1)) else ((f_errors_as_code a0 a1).bind fun (r24, r25) => (some (r24, r25))))
def f_errors_As_code_post (a0 : GErr) (a1 : Int) (g1 : Nat) : (Bool × Int) → Value → IM → HL → Prop :=
  fun (p_ : (Bool × Int)) (v : Value) (M' : IM) (H' : HL) => match p_ with | (r0, r1) => (.bool r0) = v ∧ H' = [[(g1, .cells #[(.int .i64 r1)] 56 (0, 0))]]
set_option maxHeartbeats 8000000 in
set_option maxRecDepth 100000 in
theorem f_errors_As_code_ok (a0 : GErr) (a1 : Int) (M : IM) (g1 : Nat) (hE : Env M) (res : (Bool × Int)) (h : f_errors_As_code a0 a1 = some res) :
    Tri Tryd.prog 42 #[(GV a0), (.iface 76 (.pointer (some ⟨g1, 0, none⟩)))] M [[(g1, .cells #[(.int .i64 a1)] 56 (0, 0))]] (f_errors_As_code_post a0 a1 g1 res) := by
 unfold f_errors_As_code at h
 refine Tri.enter (fn := Tryd.f42) Tryd.func42 rfl (Nat.le_of_ble_eq_true rfl) ?_
 intro F ρ hρ
 refine Sr ?_
 refine Pa (.bool false) rfl rfl ?_
 refine Nt ?_
 refine WC.seq ?_
 refine Sr ?_
 refine Pm (GV a0) (hρ 0) rfl ?_
 refine Pu (.bool a0.isNil) (PO.errNil Tryd.underlying45 rfl) rfl ?_
 refine Nt ?_
 refine WC.cond (b := a0.isNil) rfl (fun hb21 => ?_) (fun hb21 => ?_)
 have h := ite_t hb21 h
 refine Sr ?_
 refine Pa (.bool false) rfl rfl ?_
 refine Nt ?_
 refine WC.ret ?_
 refine WQ.thenR ?_
 exact WQ.returnsF h [[(g1, .cells #[(.int .i64 a1)] 56 (0, 0))]] rfl (results1 rfl rfl) (IM.le.refl _) ⟨rfl, rfl⟩
 have h := ite_f hb21 h
 refine WC.skip ?_
 refine WQ.thenC ?_
 refine WC.seq ?_
 refine Sr ?_
 refine Pm (.iface 76 (.pointer (some ⟨g1, 0, none⟩))) (hρ 1) rfl ?_
 refine Pu (.bool false) (PO.ifcNil Tryd.underlying20 rfl) rfl ?_
 refine Nt ?_
 refine WC.condF (b := false) rfl rfl ?_
 refine WC.skip ?_
 refine WQ.thenC ?_
 refine Sr ?_
 refine Pm (.iface 76 (.pointer (some ⟨g1, 0, none⟩))) (hρ 1) rfl ?_
 refine WL.eff (EO.valueOf xt51 (args1 (show ev _ _ = (.iface 76 (.pointer (some ⟨g1, 0, none⟩))) from rfl)) (vo76 ⟨g1, 0, none⟩)) rfl ?_
 rintro _ _ _ - ⟨rfl, g22, rfl, rfl⟩
 refine WL.eff (EO.alloc ze94 rfl) rfl ?_
 rintro _ _ _ - ⟨rfl, g23, rfl, rfl⟩
 refine WL.eff (EO.storeL (v := (.agg #[(.pointer (some ⟨1, 76, none⟩)), (.pointer (some ⟨g22, 0, none⟩)), (.int .u64 (150 : Int))])) (vl := [(.pointer (some ⟨1, 76, none⟩)), (.pointer (some ⟨g22, 0, none⟩)), (.int .u64 (150 : Int))]) (arr' := [(.pointer (some ⟨1, 76, none⟩)), (.pointer (some ⟨g22, 0, none⟩)), (.int .u64 (150 : Int))]) rfl sz94 rfl rfl (onesOf (Ones.cons rfl (Ones.cons rfl (Ones.cons rfl Ones.nil)))) rfl rfl rfl) rfl ?_
 rintro _ _ _ - ⟨rfl, rfl⟩
 refine Ns ?_
 refine Pu (.agg #[(.pointer (some ⟨1, 76, none⟩)), (.pointer (some ⟨g22, 0, none⟩)), (.int .u64 (150 : Int))]) (PO.loadBA (cs := [(.pointer (some ⟨1, 76, none⟩)), (.pointer (some ⟨g22, 0, none⟩)), (.int .u64 (150 : Int))]) 0 ag94 sz94 rfl rfl rfl) rfl ?_
 refine WL.eff (EO.extP xt52 (args1 (show ev _ _ = (.agg #[(.pointer (some ⟨1, 76, none⟩)), (.pointer (some ⟨g22, 0, none⟩)), (.int .u64 (150 : Int))]) from rfl)) (vt76_150 _)) rfl ?_
 rintro _ _ _ - ⟨rfl, rfl, rfl⟩
 refine Pa (.iface 108 (.agg #[.pointer (some ⟨1, 76, none⟩)])) rfl rfl ?_
 refine Nt ?_
 refine WC.seq ?_
 refine Sr ?_
 refine Pm (.iface 108 (.agg #[.pointer (some ⟨1, 76, none⟩)])) rfl rfl ?_
 refine WL.eff (EO.invE (show ev _ _ = (.iface 108 (.agg #[.pointer (some ⟨1, 76, none⟩)])) from rfl) (mm_Kind (.pointer (some ⟨1, 76, none⟩))) xt74 inv0 mr_Kind_76) rfl ?_
 rintro _ _ _ - ⟨rfl, rfl, rfl⟩
 refine Pu (.bool false) (PO.neqR rfl rfl (by decide)) rfl ?_
 refine Pm (.bool false) rfl rfl ?_
 refine On 20 rfl rfl rfl ?_
 refine Pu (.agg #[(.pointer (some ⟨1, 76, none⟩)), (.pointer (some ⟨g22, 0, none⟩)), (.int .u64 (150 : Int))]) (PO.loadBA (cs := [(.pointer (some ⟨1, 76, none⟩)), (.pointer (some ⟨g22, 0, none⟩)), (.int .u64 (150 : Int))]) 0 ag94 sz94 rfl rfl rfl) rfl ?_
 refine On 20 rfl rfl rfl ?_
 refine WL.eff (EO.isNil 1 xt53 pp76_150 rfl pl76 (args1 (show ev _ _ = (.agg #[(.pointer (some ⟨1, 76, none⟩)), (.pointer (some ⟨g22, 0, none⟩)), (.int .u64 (150 : Int))]) from rfl)) rfl) rfl ?_
 rintro _ _ _ - ⟨rfl, rfl, rfl⟩
 refine Pu (.bool false) (PO.pickF rfl rfl rfl) rfl ?_
 refine Nt ?_
 refine WC.condF (b := false) rfl rfl ?_
 refine WC.skip ?_
 refine WQ.thenC ?_
 refine Sr ?_
 refine Pm (.iface 108 (.agg #[.pointer (some ⟨1, 76, none⟩)])) rfl rfl ?_
 refine WL.eff (EO.invE (show ev _ _ = (.iface 108 (.agg #[.pointer (some ⟨1, 76, none⟩)])) from rfl) (mm_Elem (.pointer (some ⟨1, 76, none⟩))) xt86 inv0 mr_Elem_76) rfl ?_
 rintro _ _ _ - ⟨rfl, rfl, rfl⟩
 refine Pa (.iface 108 (.agg #[.pointer (some ⟨1, 56, none⟩)])) rfl rfl ?_
 refine Nt ?_
 refine WC.seq ?_
 refine Sr ?_
 refine Pm (.iface 108 (.agg #[.pointer (some ⟨1, 56, none⟩)])) rfl rfl ?_
 refine WL.eff (EO.invE (show ev _ _ = (.iface 108 (.agg #[.pointer (some ⟨1, 56, none⟩)])) from rfl) (mm_Kind (.pointer (some ⟨1, 56, none⟩))) xt74 inv0 mr_Kind_56) rfl ?_
 rintro _ _ _ - ⟨rfl, rfl, rfl⟩
 refine Pu (.bool true) (PO.neqR rfl rfl (by decide)) rfl ?_
 refine Pm (.bool true) rfl rfl ?_
 refine On 30 rfl rfl rfl ?_
 refine Pm (.iface 108 (.agg #[.pointer (some ⟨1, 56, none⟩)])) rfl rfl ?_
 refine On 30 rfl rfl rfl ?_
 refine Pu (.iface 108 (.agg #[.pointer (some ⟨1, 45, none⟩)])) (PO.loadG pl97 hE) rfl ?_
 refine On 30 rfl rfl rfl ?_
 refine WL.eff (EO.invE (show ev _ _ = (.iface 108 (.agg #[.pointer (some ⟨1, 56, none⟩)])) from rfl) (mm_Implements (.pointer (some ⟨1, 56, none⟩))) xt87 (inv1 rfl) mr_Implements_56_45) rfl ?_
 rintro _ _ _ - ⟨rfl, rfl, rfl⟩
 refine On 30 rfl rfl rfl ?_
 refine Pu (.bool (!true)) (PO.not rfl) rfl ?_
 refine Pu (.bool (!true)) (PO.pickT rfl rfl rfl) rfl ?_
 refine Nt ?_
 refine WC.condF (b := !true) rfl rfl ?_
 refine WC.skip ?_
 refine WQ.thenC ?_
 refine Sr ?_
 refine Pm (GV a0) (hρ 0) rfl ?_
 refine Pm (.iface 76 (.pointer (some ⟨g1, 0, none⟩))) (hρ 1) rfl ?_
 refine Pu (.agg #[(.pointer (some ⟨1, 76, none⟩)), (.pointer (some ⟨g22, 0, none⟩)), (.int .u64 (150 : Int))]) (PO.loadBA (cs := [(.pointer (some ⟨1, 76, none⟩)), (.pointer (some ⟨g22, 0, none⟩)), (.int .u64 (150 : Int))]) 0 ag94 sz94 rfl rfl rfl) rfl ?_
 refine Pm (.iface 108 (.agg #[.pointer (some ⟨1, 56, none⟩)])) rfl rfl ?_
 obtain ⟨⟨r24, r25⟩, hr26, h⟩ := bnd h
 refine WL.f1 ?_
 refine WL.f2 ?_
 refine WL.eff (EO.call2 co54 (f_errors_as_code_ok a0 a1 _ _ _ (r24, r25) hr26) (args4 rfl rfl rfl rfl)) rfl ?_
 rintro _ M27 _ hle28 ⟨_, ⟨rfl, rfl⟩, rfl⟩
 have hE := hE.mono hle28
 refine WL.a2 ?_
 refine Pa (.bool r24) rfl rfl ?_
 refine Nt ?_
 refine WC.ret ?_
 refine WQ.f1 ?_
 refine WQ.drop ?_
 refine WQ.f1 ?_
 refine WQ.drop ?_
 exact WQ.returnsF h [[(g1, .cells #[(.int .i64 r25)] 56 (0, 0))]] rfl (results1 rfl rfl) hle28 ⟨rfl, rfl⟩

noncomputable def f_fault_Of (a0 : GErr) : Option Int :=
  (if a0.isNil = true then (some (0 : Int)) else ((f_errors_As_code a0 (0 : Int)).bind fun (r23, r24) => (if r23 = true then (some r24) else (some (21 : Int)))))
def f_fault_Of_post (a0 : GErr) : Int → Value → IM → HL → Prop :=
  fun (r0 : Int) (v : Value) (M' : IM) (H' : HL) => (.int .i64 r0) = v ∧ H' = []
set_option maxHeartbeats 8000000 in
set_option maxRecDepth 100000 in
theorem f_fault_Of_ok (a0 : GErr) (M : IM) (hE : Env M) (res : Int) (h : f_fault_Of a0 = some res) :
    Tri Tryd.prog 31 #[(GV a0)] M [] (f_fault_Of_post a0 res) := by
 unfold f_fault_Of at h
 refine Tri.enter (fn := Tryd.f31) Tryd.func31 rfl (Nat.le_of_ble_eq_true rfl) ?_
 intro F ρ hρ
 refine Sr ?_
 refine Pa (.int .i64 (0 : Int)) rfl rfl ?_
 refine Nt ?_
 refine WC.seq ?_
 refine Sr ?_
 refine Pm (GV a0) (hρ 0) rfl ?_
 refine Pu (.bool a0.isNil) (PO.errNil Tryd.underlying45 rfl) rfl ?_
 refine Nt ?_
 refine WC.cond (b := a0.isNil) rfl (fun hb21 => ?_) (fun hb21 => ?_)
 have h := ite_t hb21 h
 refine Sr ?_
 refine Pa (.int .i64 (0 : Int)) rfl rfl ?_
 refine Nt ?_
 refine WC.ret ?_
 refine WQ.thenR ?_
 exact WQ.returnsF h [] rfl (results1 rfl rfl) (IM.le.refl _) ⟨rfl, rfl⟩
 have h := ite_f hb21 h
 refine WC.skip ?_
 refine WQ.thenC ?_
 refine Sr ?_
 refine WL.eff (EO.alloc ze56 rfl) rfl ?_
 rintro _ _ _ - ⟨rfl, g22, rfl, rfl⟩
 refine Nt ?_
 refine WC.seq ?_
 refine Sr ?_
 refine Pm (GV a0) (hρ 0) rfl ?_
 refine Pu (.iface 76 (.pointer (some ⟨g22, 0, none⟩))) (PO.makeInterface cc76 rfl) rfl ?_
 obtain ⟨⟨r23, r24⟩, hr25, h⟩ := bnd h
 refine WL.eff (EO.call1 co42 (f_errors_As_code_ok a0 (0 : Int) _ _ hE (r23, r24) hr25) (args2 rfl rfl)) rfl ?_
 rintro _ M26 _ hle27 ⟨_, ⟨rfl, rfl⟩, rfl⟩
 have hE := hE.mono hle27
 refine WL.a1 ?_
 refine Nt ?_
 refine WC.cond (b := r23) rfl (fun hb29 => ?_) (fun hb29 => ?_)
 have h := ite_t hb29 h
 refine Sr ?_
 refine Pu (.int .i64 r24) (PO.loadB 0 pl56 rfl rfl rfl) rfl ?_
 refine Pa (.int .i64 r24) rfl rfl ?_
 refine Nt ?_
 refine WC.ret ?_
 refine WQ.thenR ?_
 refine WQ.drop ?_
 exact WQ.returnsF h [] rfl (results1 rfl rfl) hle27 ⟨rfl, rfl⟩
 have h := ite_f hb29 h
 refine WC.skip ?_
 refine WQ.thenC ?_
 refine Sr ?_
 refine Pa (.int .i64 (21 : Int)) rfl rfl ?_
 refine Nt ?_
 refine WC.ret ?_
 refine WQ.drop ?_
 exact WQ.returnsF h [] rfl (results1 rfl rfl) hle27 ⟨rfl, rfl⟩

noncomputable def f_wire_Reader_Refuse (a0 : T_wire_Reader) (a1 : ByteArray) (a2 : Int) : Option GErr :=
  ((f_wire_Reader_fail a0 a1 a0.at_ a2).bind fun (r21 : GErr) => (some r21))
def f_wire_Reader_Refuse_post (a0 : T_wire_Reader) (a1 : ByteArray) (a2 : Int) (v0_0 : Value) (g0 : Nat) : GErr → Value → IM → HL → Prop :=
  fun (r0 : GErr) (v : Value) (M' : IM) (H' : HL) => (.tuple #[]) = v ∧ H' = [[(g0, .cells #[v0_0, (.int .i64 a0.at_), (GV r0)] 73 (0, 0))]]
set_option maxHeartbeats 8000000 in
set_option maxRecDepth 100000 in
theorem f_wire_Reader_Refuse_ok (a0 : T_wire_Reader) (a1 : ByteArray) (a2 : Int) (M : IM) (v0_0 : Value) (g0 : Nat) (h0_0 : RS (Kd.int .u8) M v0_0 a0.b) (res : GErr) (h : f_wire_Reader_Refuse a0 a1 a2 = some res) :
    Tri Tryd.prog 33 #[(.pointer (some ⟨g0, 0, none⟩)), (.string a1), (.int .i64 a2)] M [[(g0, .cells #[v0_0, (.int .i64 a0.at_), (GV a0.err)] 73 (0, 0))]] (f_wire_Reader_Refuse_post a0 a1 a2 v0_0 g0 res) := by
 unfold f_wire_Reader_Refuse at h
 refine Tri.enter (fn := Tryd.f33) Tryd.func33 rfl (Nat.le_of_ble_eq_true rfl) ?_
 intro F ρ hρ
 refine WC.region ?_
 refine Pm (.pointer (some ⟨g0, 0, none⟩)) (hρ 0) rfl ?_
 refine Pm (.string a1) (hρ 1) rfl ?_
 refine Pm (.pointer (some ⟨g0, 0, none⟩)) (hρ 0) rfl ?_
 refine Pu (.pointer (some ⟨g0, 0, none⟩)) (PO.nilCheck rfl) rfl ?_
 refine Pu (.pointer (some ⟨g0, 1, none⟩)) (PO.fieldAddr fo73_1 rfl rfl) rfl ?_
 refine Pu (.int .i64 a0.at_) (PO.loadB 0 pl3 rfl rfl rfl) rfl ?_
 refine Pm (.int .i64 a2) (hρ 2) rfl ?_
 obtain ⟨r21, hr22, h⟩ := bnd h
 refine WL.eff (EO.call1 co39 (f_wire_Reader_fail_ok a0 a1 a0.at_ a2 _ _ _ h0_0 r21 hr22) (args4 rfl rfl rfl rfl)) rfl ?_
 rintro _ M23 _ hle24 ⟨_, ⟨rfl, rfl⟩, rfl⟩
 have h0_0 := h0_0.mono hle24
 refine WL.a1 ?_
 refine WL.nil ?_
 exact WQ.endsF h [[(g0, .cells #[v0_0, (.int .i64 a0.at_), (GV r21)] 73 (0, 0))]] rfl (results0 rfl) hle24 ⟨rfl, rfl⟩


end Go.Proofs.YtdlilclopmhiaaaDoor.G
