/- Go functions: what they come to, and that they do. Printed by a program of the session (gen). -/
import Derived.Test.YtdlilclopmhiaaaDoorWF
import Derived.Test.YtdlilclopmhiaaaDoorW9
set_option linter.unusedVariables false
set_option linter.unusedSimpArgs false
namespace Go.Proofs.YtdlilclopmhiaaaDoor.G
open Go Go.KK

noncomputable def f_ref02_End (a0 : (List Int)) (a1 : T_ref02_State) : Option T_ref02_State :=
  (if (decide (a1.At < (a0.length : Int))) = true then ((f_ref02_bad a1 (⟨#[101, 110, 100]⟩ : ByteArray) a1.At (5 : Int)).bind fun (r24 : T_ref02_State) => (some r24)) else (some a1))
def f_ref02_End_post (a0 : (List Int)) (a1 : T_ref02_State) (v0 : Value) : T_ref02_State → Value → IM → HL → Prop :=
  fun (r0 : T_ref02_State) (v : Value) (M' : IM) (H' : HL) => (.agg #[(.int .i64 r0.At), (.int .i64 r0.Code), (.string r0.Op), (.int .i64 r0.Where)]) = v ∧ H' = []
set_option maxHeartbeats 8000000 in
set_option maxRecDepth 100000 in
theorem f_ref02_End_ok (a0 : (List Int)) (a1 : T_ref02_State) (M : IM) (v0 : Value) (h0 : RS (Kd.int .u8) M v0 a0) (res : T_ref02_State) (h : f_ref02_End a0 a1 = some res) :
    Tri Tryd.prog 36 #[v0, (.agg #[(.int .i64 a1.At), (.int .i64 a1.Code), (.string a1.Op), (.int .i64 a1.Where)])] M [] (f_ref02_End_post a0 a1 v0 res) := by
 unfold f_ref02_End at h
 refine Tri.enter (fn := Tryd.f36) Tryd.func36 rfl (Nat.le_of_ble_eq_true rfl) ?_
 intro F ρ hρ
 refine Sr ?_
 refine WL.eff (EO.box (cs := #[(.int .i64 a1.At), (.int .i64 a1.Code), (.string a1.Op), (.int .i64 a1.Where)]) (congrArg Value.cells (asE (.agg #[(.int .i64 a1.At), (.int .i64 a1.Code), (.string a1.Op), (.int .i64 a1.Where)]) (hρ 1)))) rfl ?_
 rintro _ _ _ - ⟨rfl, g21, rfl, rfl⟩
 refine WL.eff (EO.alloc ze63 rfl) rfl ?_
 rintro _ _ _ - ⟨rfl, g22, rfl, rfl⟩
 refine Nt ?_
 refine WC.seq ?_
 refine Sr ?_
 refine Pu (.pointer (some ⟨g21, 0, none⟩)) (PO.fieldAddr fo63_0 rfl rfl) rfl ?_
 refine Pu (.int .i64 a1.At) (PO.loadB 1 pl3 rfl rfl rfl) rfl ?_
 refine Pm v0 (hρ 0) rfl ?_
 refine Pu (.int .i64 (a0.length : Int)) (PO.lenS Tryd.underlying22 rfl h0.len) rfl ?_
 refine Pu (.bool (decide (a1.At < (a0.length : Int)))) (PO.lss rfl rfl) rfl ?_
 refine Nt ?_
 refine WC.cond (b := decide (a1.At < (a0.length : Int))) rfl (fun hb23 => ?_) (fun hb23 => ?_)
 have h := ite_t hb23 h
 refine Sr ?_
 refine Pu (.agg #[(.int .i64 a1.At), (.int .i64 a1.Code), (.string a1.Op), (.int .i64 a1.Where)]) (PO.loadBA (cs := [(.int .i64 a1.At), (.int .i64 a1.Code), (.string a1.Op), (.int .i64 a1.Where)]) 1 ag63 sz63 rfl rfl rfl) rfl ?_
 refine Pu (.pointer (some ⟨g21, 0, none⟩)) (PO.fieldAddr fo63_0 rfl rfl) rfl ?_
 refine Pu (.int .i64 a1.At) (PO.loadB 1 pl3 rfl rfl rfl) rfl ?_
 obtain ⟨r24, hr25, h⟩ := bnd h
 refine WL.eff (EO.call0 co45 (f_ref02_bad_ok a1 (⟨#[101, 110, 100]⟩ : ByteArray) a1.At (5 : Int) _ r24 hr25) (args4 rfl rfl rfl rfl)) rfl ?_
 rintro _ M26 _ hle27 ⟨_, ⟨rfl, rfl⟩, rfl⟩
 refine WL.a0 ?_
 refine WL.eff (EO.storeL (v := (.agg #[(.int .i64 r24.At), (.int .i64 r24.Code), (.string r24.Op), (.int .i64 r24.Where)])) (vl := [(.int .i64 r24.At), (.int .i64 r24.Code), (.string r24.Op), (.int .i64 r24.Where)]) (arr' := [(.int .i64 r24.At), (.int .i64 r24.Code), (.string r24.Op), (.int .i64 r24.Where)]) rfl sz63 rfl rfl (onesOf (Ones.cons rfl (Ones.cons rfl (Ones.cons rfl (Ones.cons rfl Ones.nil))))) rfl rfl rfl) rfl ?_
 rintro _ _ _ - ⟨rfl, rfl⟩
 refine Nt ?_
 refine WC.ret ?_
 refine WQ.thenR ?_
 refine WQ.f1 ?_
 refine WQ.drop ?_
 exact WQ.returnsD h [] (fun _ hs => hs.drop) (resultsL1 rfl (RV.cellA (cs := [(.int .i64 r24.At), (.int .i64 r24.Code), (.string r24.Op), (.int .i64 r24.Where)]) 0 ag63 sz63 rfl rfl rfl)) hle27 ⟨rfl, rfl⟩
 have h := ite_f hb23 h
 refine WC.skip ?_
 refine WQ.thenC ?_
 refine Sr ?_
 refine Pu (.agg #[(.int .i64 a1.At), (.int .i64 a1.Code), (.string a1.Op), (.int .i64 a1.Where)]) (PO.loadBA (cs := [(.int .i64 a1.At), (.int .i64 a1.Code), (.string a1.Op), (.int .i64 a1.Where)]) 1 ag63 sz63 rfl rfl rfl) rfl ?_
 refine WL.eff (EO.storeL (v := (.agg #[(.int .i64 a1.At), (.int .i64 a1.Code), (.string a1.Op), (.int .i64 a1.Where)])) (vl := [(.int .i64 a1.At), (.int .i64 a1.Code), (.string a1.Op), (.int .i64 a1.Where)]) (arr' := [(.int .i64 a1.At), (.int .i64 a1.Code), (.string a1.Op), (.int .i64 a1.Where)]) rfl sz63 rfl rfl (onesOf (Ones.cons rfl (Ones.cons rfl (Ones.cons rfl (Ones.cons rfl Ones.nil))))) rfl rfl rfl) rfl ?_
 rintro _ _ _ - ⟨rfl, rfl⟩
 refine Nt ?_
 refine WC.ret ?_
 refine WQ.f1 ?_
 refine WQ.drop ?_
 exact WQ.returnsD h [] (fun _ hs => hs.drop) (resultsL1 rfl (RV.cellA (cs := [(.int .i64 a1.At), (.int .i64 a1.Code), (.string a1.Op), (.int .i64 a1.Where)]) 0 ag63 sz63 rfl rfl rfl)) (IM.le.refl _) ⟨rfl, rfl⟩


end Go.Proofs.YtdlilclopmhiaaaDoor.G
