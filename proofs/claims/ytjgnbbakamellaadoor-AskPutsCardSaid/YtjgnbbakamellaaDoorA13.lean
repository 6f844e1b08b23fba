/- Go functions: what they come to, and that they do. Printed by a program of the session (gen). -/
import Derived.Test.YtjgnbbakamellaaDoorAF
import Derived.Test.YtjgnbbakamellaaDoorA12
import Derived.Test.YtjgnbbakamellaaDoorKConv
import Derived.Test.YtjgnbbakamellaaDoorKEq2
set_option linter.unusedVariables false
set_option linter.unusedSimpArgs false
namespace Go.Proofs.YtjgnbbakamellaaDoor.G
open Go Go.KK

noncomputable def f_ref22_CheckReply (a0 : T_api_Reply) : Option T_ref22_Wrong :=
  (((if (decide (a0.Client < (1 : Int))) = true then (some true) else (if (decide ((1073741824 : Int) < a0.Client)) = true then (some true) else (if (decide (a0.Serial < (1 : Int))) = true then (some true) else (if (decide ((1073741824 : Int) < a0.Serial)) = true then (some true) else ((f_ref22_num a0.Code true (21 : Int)).bind fun (r29 : Bool) => (if (!r29) = true then (some true) else ((f_ref22_num a0.Leader true (1073741824 : Int)).bind fun (r35 : Bool) => (some (!r35))))))))) : Option Bool).bind fun (x23 : Bool) => (if x23 = true then (some (⟨(⟨#[114, 101, 112, 108, 121]⟩ : ByteArray), a0.Client, (2 : Int)⟩ : T_ref22_Wrong)) else (some (⟨(⟨#[]⟩ : ByteArray), (0 : Int), (0 : Int)⟩ : T_ref22_Wrong))))
def f_ref22_CheckReply_post (a0 : T_api_Reply) : T_ref22_Wrong → Value → IM → HL → Prop :=
  fun (r0 : T_ref22_Wrong) (v : Value) (M' : IM) (H' : HL) => (.agg #[(.string r0.Op), (.int .i64 r0.At), (.int .i64 r0.Code)]) = v ∧ H' = []
set_option maxHeartbeats 8000000 in
set_option maxRecDepth 100000 in
theorem f_ref22_CheckReply_ok (a0 : T_api_Reply) (M : IM) (res : T_ref22_Wrong) (h : f_ref22_CheckReply a0 = some res) :
    Tri Tryd.prog 33 #[(a72_ a0)] M [] (f_ref22_CheckReply_post a0 res) := by
 unfold f_ref22_CheckReply at h
 refine Tri.enter (fn := Tryd.f33) Tryd.func33 rfl (Nat.le_of_ble_eq_true rfl) ?_
 intro F ρ hρ
 refine Sr ?_
 refine WL.eff (EO.box (cs := (l72 a0).toArray) (congrArg Value.cells (asE (a72_ a0) (hρ 0)))) rfl ?_
 rintro _ _ _ - ⟨rfl, g21, rfl, rfl⟩
 refine WL.eff (EO.alloc ze77 rfl) rfl ?_
 rintro _ _ _ - ⟨rfl, g22, rfl, rfl⟩
 refine Nt ?_
 refine WC.seq ?_
 obtain ⟨x23, hj24, h⟩ := bnd h
 refine WC.joinF (fun (x23 : Bool) ρ' M' H' => M.le M' ∧ [(g22, .cells #[(.string ⟨#[]⟩), (.int .i64 0), (.int .i64 0)] 77 (0, 0))] :: [(g21, .cells (l72 a0).toArray 72 (0, 0))] :: F = H' ∧ ρ' 1 = (.pointer (some ⟨g21, 0, none⟩)) ∧ ρ' 2 = (.pointer (some ⟨g22, 0, none⟩)) ∧ ρ' 32 = (.bool x23)) x23 ?_ ?_
 have h324 := h
 have h := hj24
 refine WC.region ?_
 refine Pu (.pointer (some ⟨g21, 0, none⟩)) (PO.fieldAddr fo72_0 rfl rfl) rfl ?_
 refine Pu (.int .i64 a0.Client) (PO.loadB 1 pl3 rfl rfl rfl) rfl ?_
 refine Pu (.bool (decide (a0.Client < (1 : Int)))) (PO.lss rfl rfl) rfl ?_
 refine Pm (.bool (decide (a0.Client < (1 : Int)))) rfl rfl ?_
 rcases Bool.eq_false_or_eq_true (decide (a0.Client < (1 : Int))) with hb25 | hb25
 have h := ite_t hb25 h
 iterate 3 refine Of 6 rfl rfl hb25 rfl ?_
 refine Pu (.bool true) (PO.pickT rfl hb25 rfl) rfl ?_
 refine Pm (.bool true) rfl rfl ?_
 iterate 3 refine Of 11 rfl rfl rfl rfl ?_
 refine Pu (.bool true) (PO.pickT rfl rfl rfl) rfl ?_
 refine Pm (.bool true) rfl rfl ?_
 iterate 3 refine Of 16 rfl rfl rfl rfl ?_
 refine Pu (.bool true) (PO.pickT rfl rfl rfl) rfl ?_
 refine Pm (.bool true) rfl rfl ?_
 iterate 4 refine Of 21 rfl rfl rfl rfl ?_
 refine Pu (.bool true) (PO.pickT rfl rfl rfl) rfl ?_
 refine Pm (.bool true) rfl rfl ?_
 iterate 4 refine Of 27 rfl rfl rfl rfl ?_
 refine Pu (.bool true) (PO.pickT rfl rfl rfl) rfl ?_
 refine WL.nil ?_
 obtain rfl := Option.some.inj h
 refine WQ.thenJ ?_
 exact ⟨(IM.le.refl _), rfl, rfl, rfl, rfl⟩
 have h := ite_f hb25 h
 refine On 6 rfl rfl hb25 ?_
 refine Pu (.pointer (some ⟨g21, 0, none⟩)) (PO.fieldAddr fo72_0 rfl rfl) rfl ?_
 refine On 6 rfl rfl hb25 ?_
 refine Pu (.int .i64 a0.Client) (PO.loadB 1 pl3 rfl rfl rfl) rfl ?_
 refine On 6 rfl rfl hb25 ?_
 refine Pu (.bool (decide ((1073741824 : Int) < a0.Client))) (PO.gtr rfl rfl) rfl ?_
 refine Pu (.bool (decide ((1073741824 : Int) < a0.Client))) (PO.pickF rfl hb25 rfl) rfl ?_
 refine Pm (.bool (decide ((1073741824 : Int) < a0.Client))) rfl rfl ?_
 rcases Bool.eq_false_or_eq_true (decide ((1073741824 : Int) < a0.Client)) with hb26 | hb26
 have h := ite_t hb26 h
 iterate 3 refine Of 11 rfl rfl hb26 rfl ?_
 refine Pu (.bool true) (PO.pickT rfl hb26 rfl) rfl ?_
 refine Pm (.bool true) rfl rfl ?_
 iterate 3 refine Of 16 rfl rfl rfl rfl ?_
 refine Pu (.bool true) (PO.pickT rfl rfl rfl) rfl ?_
 refine Pm (.bool true) rfl rfl ?_
 iterate 4 refine Of 21 rfl rfl rfl rfl ?_
 refine Pu (.bool true) (PO.pickT rfl rfl rfl) rfl ?_
 refine Pm (.bool true) rfl rfl ?_
 iterate 4 refine Of 27 rfl rfl rfl rfl ?_
 refine Pu (.bool true) (PO.pickT rfl rfl rfl) rfl ?_
 refine WL.nil ?_
 obtain rfl := Option.some.inj h
 refine WQ.thenJ ?_
 exact ⟨(IM.le.refl _), rfl, rfl, rfl, rfl⟩
 have h := ite_f hb26 h
 refine On 11 rfl rfl hb26 ?_
 refine Pu (.pointer (some ⟨g21, 1, none⟩)) (PO.fieldAddr fo72_1 rfl rfl) rfl ?_
 refine On 11 rfl rfl hb26 ?_
 refine Pu (.int .i64 a0.Serial) (PO.loadB 1 pl3 rfl rfl rfl) rfl ?_
 refine On 11 rfl rfl hb26 ?_
 refine Pu (.bool (decide (a0.Serial < (1 : Int)))) (PO.lss rfl rfl) rfl ?_
 refine Pu (.bool (decide (a0.Serial < (1 : Int)))) (PO.pickF rfl hb26 rfl) rfl ?_
 refine Pm (.bool (decide (a0.Serial < (1 : Int)))) rfl rfl ?_
 rcases Bool.eq_false_or_eq_true (decide (a0.Serial < (1 : Int))) with hb27 | hb27
 have h := ite_t hb27 h
 iterate 3 refine Of 16 rfl rfl hb27 rfl ?_
 refine Pu (.bool true) (PO.pickT rfl hb27 rfl) rfl ?_
 refine Pm (.bool true) rfl rfl ?_
 iterate 4 refine Of 21 rfl rfl rfl rfl ?_
 refine Pu (.bool true) (PO.pickT rfl rfl rfl) rfl ?_
 refine Pm (.bool true) rfl rfl ?_
 iterate 4 refine Of 27 rfl rfl rfl rfl ?_
 refine Pu (.bool true) (PO.pickT rfl rfl rfl) rfl ?_
 refine WL.nil ?_
 obtain rfl := Option.some.inj h
 refine WQ.thenJ ?_
 exact ⟨(IM.le.refl _), rfl, rfl, rfl, rfl⟩
 have h := ite_f hb27 h
 refine On 16 rfl rfl hb27 ?_
 refine Pu (.pointer (some ⟨g21, 1, none⟩)) (PO.fieldAddr fo72_1 rfl rfl) rfl ?_
 refine On 16 rfl rfl hb27 ?_
 refine Pu (.int .i64 a0.Serial) (PO.loadB 1 pl3 rfl rfl rfl) rfl ?_
 refine On 16 rfl rfl hb27 ?_
 refine Pu (.bool (decide ((1073741824 : Int) < a0.Serial))) (PO.gtr rfl rfl) rfl ?_
 refine Pu (.bool (decide ((1073741824 : Int) < a0.Serial))) (PO.pickF rfl hb27 rfl) rfl ?_
 refine Pm (.bool (decide ((1073741824 : Int) < a0.Serial))) rfl rfl ?_
 rcases Bool.eq_false_or_eq_true (decide ((1073741824 : Int) < a0.Serial)) with hb28 | hb28
 have h := ite_t hb28 h
 iterate 4 refine Of 21 rfl rfl hb28 rfl ?_
 refine Pu (.bool true) (PO.pickT rfl hb28 rfl) rfl ?_
 refine Pm (.bool true) rfl rfl ?_
 iterate 4 refine Of 27 rfl rfl rfl rfl ?_
 refine Pu (.bool true) (PO.pickT rfl rfl rfl) rfl ?_
 refine WL.nil ?_
 obtain rfl := Option.some.inj h
 refine WQ.thenJ ?_
 exact ⟨(IM.le.refl _), rfl, rfl, rfl, rfl⟩
 have h := ite_f hb28 h
 refine On 21 rfl rfl hb28 ?_
 refine Pu (.pointer (some ⟨g21, 2, none⟩)) (PO.fieldAddr fo72_2 rfl rfl) rfl ?_
 refine On 21 rfl rfl hb28 ?_
 refine Pu (.int .i64 a0.Code) (PO.loadB 1 pl3 rfl rfl rfl) rfl ?_
 refine On 21 rfl rfl hb28 ?_
 obtain ⟨r29, hr30, h⟩ := bnd h
 refine WL.eff (EO.call0 co63 (f_ref22_num_ok a0.Code true (21 : Int) _ r29 hr30) (args3 rfl rfl rfl)) rfl ?_
 rintro _ M31 _ hle32 ⟨_, ⟨rfl, rfl⟩, rfl⟩
 refine WL.a0 ?_
 refine On 21 rfl rfl hb28 ?_
 refine Pu (.bool (!r29)) (PO.not rfl) rfl ?_
 refine Pu (.bool (!r29)) (PO.pickF rfl hb28 rfl) rfl ?_
 refine Pm (.bool (!r29)) rfl rfl ?_
 rcases Bool.eq_false_or_eq_true (!r29) with hb34 | hb34
 have h := ite_t hb34 h
 iterate 4 refine Of 27 rfl rfl hb34 rfl ?_
 refine Pu (.bool true) (PO.pickT rfl hb34 rfl) rfl ?_
 refine WL.nil ?_
 obtain rfl := Option.some.inj h
 refine WQ.thenJ ?_
 exact ⟨hle32, rfl, rfl, rfl, rfl⟩
 have h := ite_f hb34 h
 refine On 27 rfl rfl hb34 ?_
 refine Pu (.pointer (some ⟨g21, 3, none⟩)) (PO.fieldAddr fo72_3 rfl rfl) rfl ?_
 refine On 27 rfl rfl hb34 ?_
 refine Pu (.int .i64 a0.Leader) (PO.loadB 1 pl3 rfl rfl rfl) rfl ?_
 refine On 27 rfl rfl hb34 ?_
 obtain ⟨r35, hr36, h⟩ := bnd h
 refine WL.eff (EO.call0 co63 (f_ref22_num_ok a0.Leader true (1073741824 : Int) _ r35 hr36) (args3 rfl rfl rfl)) rfl ?_
 rintro _ M37 _ hle38 ⟨_, ⟨rfl, rfl⟩, rfl⟩
 refine WL.a0 ?_
 refine On 27 rfl rfl hb34 ?_
 refine Pu (.bool (!r35)) (PO.not rfl) rfl ?_
 refine Pu (.bool (!r35)) (PO.pickF rfl hb34 rfl) rfl ?_
 refine WL.nil ?_
 obtain rfl := Option.some.inj h
 refine WQ.thenJ ?_
 exact ⟨(hle32.trans hle38), rfl, rfl, rfl, rfl⟩
 rintro ρ24 M24 H24 ⟨hle24, rfl, hs24_1, hs24_2, hs24_32⟩
 refine WC.cond (b := x23) hs24_32 (fun hb40 => ?_) (fun hb40 => ?_)
 have h := ite_t hb40 h
 refine Sr ?_
 refine Pu (.pointer (some ⟨g21, 0, none⟩)) (PO.fieldAddr fo72_0 hs24_1 rfl) rfl ?_
 refine Pu (.int .i64 a0.Client) (PO.loadB 1 pl3 rfl rfl rfl) rfl ?_
 refine Pu (.agg #[(.string ⟨#[114, 101, 112, 108, 121]⟩), (.int .i64 a0.Client), (.int .i64 2)]) (PO.buildL (cl := [(.string ⟨#[114, 101, 112, 108, 121]⟩), (.int .i64 a0.Client), (.int .i64 2)]) ze77 fp77 (Parts.cons (congrArg Value.cells (show ev _ _ = (.string ⟨#[114, 101, 112, 108, 121]⟩) from rfl)) (Parts.cons (congrArg Value.cells (show ev _ _ = (.int .i64 a0.Client) from rfl)) (Parts.cons (congrArg Value.cells (show ev _ _ = (.int .i64 2) from rfl)) Parts.nil))) rfl) rfl ?_
 refine WL.eff (EO.storeL (v := (.agg #[(.string ⟨#[114, 101, 112, 108, 121]⟩), (.int .i64 a0.Client), (.int .i64 2)])) (vl := [(.string ⟨#[114, 101, 112, 108, 121]⟩), (.int .i64 a0.Client), (.int .i64 2)]) (arr' := [(.string ⟨#[114, 101, 112, 108, 121]⟩), (.int .i64 a0.Client), (.int .i64 2)]) rfl sz77 hs24_2 rfl (onesOf (Ones.cons rfl (Ones.cons rfl (Ones.cons rfl Ones.nil)))) rfl rfl rfl) rfl ?_
 rintro _ _ _ - ⟨rfl, rfl⟩
 refine Nt ?_
 refine WC.ret ?_
 refine WQ.thenR ?_
 refine WQ.f1 ?_
 refine WQ.drop ?_
 exact WQ.returnsD h [] (fun _ hs => hs.drop) (resultsL1 rfl (RV.cellA (cs := [(.string ⟨#[114, 101, 112, 108, 121]⟩), (.int .i64 a0.Client), (.int .i64 2)]) 0 ag77 sz77 hs24_2 rfl rfl)) hle24 ⟨rfl, rfl⟩
 have h := ite_f hb40 h
 refine WC.skip ?_
 refine WQ.thenC ?_
 refine Sr ?_
 refine Pu (.agg #[(.string ⟨#[]⟩), (.int .i64 0), (.int .i64 0)]) (PO.buildL (cl := [(.string ⟨#[]⟩), (.int .i64 0), (.int .i64 0)]) ze77 fp77 Parts.nil rfl) rfl ?_
 refine WL.eff (EO.storeL (v := (.agg #[(.string ⟨#[]⟩), (.int .i64 0), (.int .i64 0)])) (vl := [(.string ⟨#[]⟩), (.int .i64 0), (.int .i64 0)]) (arr' := [(.string ⟨#[]⟩), (.int .i64 0), (.int .i64 0)]) rfl sz77 hs24_2 rfl (onesOf (Ones.cons rfl (Ones.cons rfl (Ones.cons rfl Ones.nil)))) rfl rfl rfl) rfl ?_
 rintro _ _ _ - ⟨rfl, rfl⟩
 refine Nt ?_
 refine WC.ret ?_
 refine WQ.f1 ?_
 refine WQ.drop ?_
 exact WQ.returnsD h [] (fun _ hs => hs.drop) (resultsL1 rfl (RV.cellA (cs := [(.string ⟨#[]⟩), (.int .i64 0), (.int .i64 0)]) 0 ag77 sz77 hs24_2 rfl rfl)) hle24 ⟨rfl, rfl⟩

noncomputable def f_ref02_Ints_l0 (a0 : (List Int)) (a1 : (List Int)) (s_ : Int) : Option (Int ⊕ (Unit ⊕ Unit)) :=
  match s_ with
  | x24 =>
    (if (decide (x24 < (a0.length : Int))) = true then (grd (0 ≤ x24 ∧ x24 < a0.length) (grd (0 ≤ x24 ∧ x24 < a1.length) (if (decide ((rd a0 x24) ≠ (rd a1 x24))) = true then (some (Sum.inr (Sum.inr ()))) else (some (Sum.inl (IntKind.i64.wrap (x24 + (1 : Int)))))))) else (some (Sum.inr (Sum.inl ()))))
noncomputable def f_ref02_Ints (a0 : (List Int)) (a1 : (List Int)) : Option Bool :=
  (if (decide ((a0.length : Int) ≠ (a1.length : Int))) = true then (some false) else ((((iter (f_ref02_Ints_l0 a0 a1) (0 : Int)).bind (Sum.elim (fun _ => (some (Sum.inl ()))) (fun _ => (((some false)).bind fun r => some (Sum.inr r))))) : Option (Unit ⊕ Bool)).bind (Sum.elim (fun _ => (some true)) some)))
def f_ref02_Ints_post (a0 : (List Int)) (a1 : (List Int)) (v0 v1 : Value) : Bool → Value → IM → HL → Prop :=
  fun (r0 : Bool) (v : Value) (M' : IM) (H' : HL) => (.bool r0) = v ∧ H' = []
set_option maxHeartbeats 8000000 in
set_option maxRecDepth 100000 in
theorem f_ref02_Ints_ok (a0 : (List Int)) (a1 : (List Int)) (M : IM) (v0 v1 : Value) (h0 : RS (Kd.int .i64) M v0 a0) (h1 : RS (Kd.int .i64) M v1 a1) (res : Bool) (h : f_ref02_Ints a0 a1 = some res) :
    Tri Tryd.prog 69 #[v0, v1] M [] (f_ref02_Ints_post a0 a1 v0 v1 res) := by
 unfold f_ref02_Ints at h
 refine Tri.enter (fn := Tryd.f69) Tryd.func69 rfl (Nat.le_of_ble_eq_true rfl) ?_
 intro F ρ hρ
 refine Sr ?_
 refine Pa (.bool false) rfl rfl ?_
 refine Nt ?_
 refine WC.seq ?_
 refine Sr ?_
 refine Pm v0 (hρ 0) rfl ?_
 refine Pu (.int .i64 (a0.length : Int)) (PO.lenS Tryd.underlying64 rfl h0.len) rfl ?_
 refine Pm v1 (hρ 1) rfl ?_
 refine Pu (.int .i64 (a1.length : Int)) (PO.lenS Tryd.underlying64 rfl h1.len) rfl ?_
 refine Pu (.bool (decide ((a0.length : Int) ≠ (a1.length : Int)))) (PO.neq rfl rfl) rfl ?_
 refine Nt ?_
 refine WC.cond (b := decide ((a0.length : Int) ≠ (a1.length : Int))) rfl (fun hb21 => ?_) (fun hb21 => ?_)
 have h := ite_t hb21 h
 refine Sr ?_
 refine Pa (.bool false) rfl rfl ?_
 refine Nt ?_
 refine WC.ret ?_
 refine WQ.thenR ?_
 exact WQ.returnsF h [] rfl (results1 rfl rfl) (IM.le.refl _) ⟨rfl, rfl⟩
 have h := ite_f hb21 h
 refine WC.skip ?_
 refine WQ.thenC ?_
 obtain ⟨j22, hj22, h⟩ := bnd h
 refine WC.joinE (fun (_ : Unit) ρ' M' H' => M.le M' ∧ F = H') j22 ?_ ?_
 have h322 := h
 have h := hj22
 refine Sr ?_
 refine Pa (.int .i64 0) rfl rfl ?_
 refine Nt ?_
 refine WC.block ?_
 obtain ⟨e23, he23, hK23⟩ := bnd h
 clear h
 refine WC.loop he23 (fun (x24 : Int) ρ' M' H' => M.le M' ∧ F = H' ∧ ρ' 0 = v0 ∧ ρ' 1 = v1 ∧ ρ' 5 = (.int .i64 x24)) ?_ ?_
 exact ⟨(IM.le.refl _), rfl, (hρ 0), (hρ 1), rfl⟩
 rintro x24 o23 ρ23 M23 H23 h ⟨hle23, rfl, hs23_0, hs23_1, hs23_5⟩
 unfold f_ref02_Ints_l0 at h
 have h0 := h0.mono hle23
 have h1 := h1.mono hle23
 refine WC.seq ?_
 refine Sr ?_
 refine Pm (.int .i64 x24) hs23_5 rfl ?_
 refine Pm v0 hs23_0 rfl ?_
 refine Pu (.int .i64 (a0.length : Int)) (PO.lenS Tryd.underlying64 rfl h0.len) rfl ?_
 refine Pu (.bool (decide (x24 < (a0.length : Int)))) (PO.lss rfl rfl) rfl ?_
 refine Nt ?_
 refine WC.cond (b := decide (x24 < (a0.length : Int))) rfl (fun hb25 => ?_) (fun hb25 => ?_)
 have h := ite_t hb25 h
 refine WC.skip ?_
 refine WQ.thenC ?_
 refine WC.seq ?_
 refine WC.block ?_
 refine WC.seq ?_
 refine WC.draw [0, 0, 3, 7, 0, 0, 48, 112, 255] (.pure 0 (.pure 1 (.pure 2 (.pure 3 (.pure 4 (.pure 5 (.pure 6 (.pure 7 (.pure 8 .done))))))))) mixed (by kernel_rfl) ?_
 refine Tp v0 rfl (PO.move hs23_0) rfl ?_
 refine Tp (.int .i64 x24) rfl (PO.move hs23_5) rfl ?_
 obtain ⟨hg26, h⟩ := grd_i h
 obtain ⟨p27, cs28, hat29, hrc30, hhas31⟩ := h0.at hg26.1 hg26.2 (by decide)
 obtain rfl := hrc30
 refine Tp (.pointer (some p27)) rfl (PO.indexAddr (n := a0.length) Tryd.underlying64 sz3 rfl rfl hg26.1 hg26.2 hat29) rfl ?_
 refine Tp (.int .i64 (rd a0 x24)) rfl (PO.loadM pl3 rfl (IM.has0 hhas31)) rfl ?_
 refine Tp v1 rfl (PO.move hs23_1) rfl ?_
 refine Tp (.int .i64 x24) rfl (PO.move hs23_5) rfl ?_
 obtain ⟨hg33, h⟩ := grd_i h
 obtain ⟨p34, cs35, hat36, hrc37, hhas38⟩ := h1.at hg33.1 hg33.2 (by decide)
 obtain rfl := hrc37
 refine Tp (.pointer (some p34)) rfl (PO.indexAddr (n := a1.length) Tryd.underlying64 sz3 rfl rfl hg33.1 hg33.2 hat36) rfl ?_
 refine Tp (.int .i64 (rd a1 x24)) rfl (PO.loadM pl3 rfl (IM.has0 hhas38)) rfl ?_
 refine Tp (.bool (decide ((rd a0 x24) ≠ (rd a1 x24)))) rfl (PO.neq rfl rfl) rfl ?_
 refine WT.fin ?_
 refine WQ.thenC ?_
 refine WC.cond (b := decide ((rd a0 x24) ≠ (rd a1 x24))) rfl (fun hb40 => ?_) (fun hb40 => ?_)
 have h := ite_t hb40 h
 refine Sr ?_
 refine Pa (.bool false) rfl rfl ?_
 refine Nt ?_
 refine WC.ret ?_
 refine WQ.blockR ?_
 refine WQ.thenR ?_
 refine WQ.leaveR (Sum.inr ()) (Option.some.inj h).symm (fun heq23 => ?_)
 subst heq23
 have h := (elimR hK23)
 refine WQ.blockR ?_
 refine WQ.thenR ?_
 have h := KK.early h h322
 exact WQ.returnsF h [] rfl (results1 rfl rfl) hle23 ⟨rfl, rfl⟩
 have h := ite_f hb40 h
 refine WC.skip ?_
 refine WQ.blockN ?_
 refine WQ.thenC ?_
 refine WC.region ?_
 refine Pm (.int .i64 x24) hs23_5 rfl ?_
 refine Pu (.int .i64 (IntKind.i64.wrap (x24 + (1 : Int)))) (PO.add rfl rfl) rfl ?_
 refine Pa (.int .i64 (IntKind.i64.wrap (x24 + (1 : Int)))) rfl rfl ?_
 refine WL.nil ?_
 refine WQ.again (IntKind.i64.wrap (x24 + (1 : Int))) (Option.some.inj h).symm ?_
 exact ⟨hle23, rfl, hs23_0, hs23_1, rfl⟩
 have h := ite_f hb25 h
 refine WC.exit ?_
 refine WQ.thenE ?_
 refine WQ.leaveE (Sum.inl ()) (Option.some.inj h).symm (fun heq23 => ?_)
 subst heq23
 have h := elimL hK23
 refine WQ.blockH ?_
 refine WQ.thenFE h ?_
 exact ⟨hle23, rfl⟩
 rintro _ ρ22 M22 H22 rfl ⟨hle22, rfl⟩
 refine Sr ?_
 refine Pa (.bool true) rfl rfl ?_
 refine Nt ?_
 refine WC.ret ?_
 exact WQ.returnsF h [] rfl (results1 rfl rfl) hle22 ⟨rfl, rfl⟩

noncomputable def f_ref22_Same (a0 : T_api_Request) (a1 : T_api_Request) : Option Bool :=
  (((if (decide (a0.Client ≠ a1.Client)) = true then (some true) else (if (decide (a0.Serial ≠ a1.Serial)) = true then (some true) else (if (decide (a0.Kind ≠ a1.Kind)) = true then (some true) else (if (!decide (a0.Name = a1.Name)) = true then (some true) else (if (!decide (a0.Key = a1.Key)) = true then (some true) else (some (!decide (a0.Value = a1.Value)))))))) : Option Bool).bind fun (x23 : Bool) => (if x23 = true then (some false) else (((if (!(a0.Flag == a1.Flag)) = true then (some true) else (if (decide (a0.Parts ≠ a1.Parts)) = true then (some true) else (if (decide (a0.Replicas ≠ a1.Replicas)) = true then (some true) else (if (decide (a0.Part ≠ a1.Part)) = true then (some true) else (if (decide (a0.Broker ≠ a1.Broker)) = true then (some true) else (some (decide (a0.Epoch ≠ a1.Epoch)))))))) : Option Bool).bind fun (x31 : Bool) => (if x31 = true then (some false) else (((if (decide (a0.Rack = a1.Rack)) = true then (if (andL [decide (a0.Word.Broker = a1.Word.Broker), decide (a0.Word.Epoch = a1.Word.Epoch), decide (a0.Word.High = a1.Word.High), a0.Word.Fence == a1.Word.Fence, a0.Word.Leave == a1.Word.Leave]) = true then ((f_ref02_Ints a0.Ids a1.Ids).bind fun (r43 : Bool) => (some r43)) else (some false)) else (some false)) : Option Bool).bind fun (x39 : Bool) => (some x39))))))
def f_ref22_Same_post (a0 : T_api_Request) (a1 : T_api_Request) (v0_10 v1_10 : Value) : Bool → Value → IM → HL → Prop :=
  fun (r0 : Bool) (v : Value) (M' : IM) (H' : HL) => (.bool r0) = v ∧ H' = []
set_option maxHeartbeats 8000000 in
set_option maxRecDepth 100000 in
theorem f_ref22_Same_ok (a0 : T_api_Request) (a1 : T_api_Request) (M : IM) (v0_10 v1_10 : Value) (h0_10 : RS (Kd.int .i64) M v0_10 a0.Ids) (h1_10 : RS (Kd.int .i64) M v1_10 a1.Ids) (res : Bool) (h : f_ref22_Same a0 a1 = some res) :
    Tri Tryd.prog 35 #[(a68_ a0 v0_10), (a68_ a1 v1_10)] M [] (f_ref22_Same_post a0 a1 v0_10 v1_10 res) := by
 unfold f_ref22_Same at h
 refine Tri.enter (fn := Tryd.f35) Tryd.func35 rfl (Nat.le_of_ble_eq_true rfl) ?_
 intro F ρ hρ
 refine Sr ?_
 refine WL.eff (EO.box (cs := (l68 a0 v0_10).toArray) (congrArg Value.cells (asE (a68_ a0 v0_10) (hρ 0)))) rfl ?_
 rintro _ _ _ - ⟨rfl, g21, rfl, rfl⟩
 refine WL.eff (EO.box (cs := (l68 a1 v1_10).toArray) (congrArg Value.cells (asE (a68_ a1 v1_10) (hρ 1)))) rfl ?_
 rintro _ _ _ - ⟨rfl, g22, rfl, rfl⟩
 refine Pa (.bool false) rfl rfl ?_
 refine Nt ?_
 refine WC.seq ?_
 obtain ⟨x23, hj24, h⟩ := bnd h
 refine WC.joinF (fun (x23 : Bool) ρ' M' H' => M.le M' ∧ [(g22, .cells (l68 a1 v1_10).toArray 68 (0, 0))] :: [(g21, .cells (l68 a0 v0_10).toArray 68 (0, 0))] :: F = H' ∧ ρ' 2 = (.pointer (some ⟨g21, 0, none⟩)) ∧ ρ' 3 = (.pointer (some ⟨g22, 0, none⟩)) ∧ ρ' 44 = (.bool x23)) x23 ?_ ?_
 have h324 := h
 have h := hj24
 refine WC.region ?_
 refine Pu (.pointer (some ⟨g21, 0, none⟩)) (PO.fieldAddr fo68_0 rfl rfl) rfl ?_
 refine Pu (.int .i64 a0.Client) (PO.loadB 1 pl3 rfl rfl rfl) rfl ?_
 refine Pu (.pointer (some ⟨g22, 0, none⟩)) (PO.fieldAddr fo68_0 rfl rfl) rfl ?_
 refine Pu (.int .i64 a1.Client) (PO.loadB 0 pl3 rfl rfl rfl) rfl ?_
 refine Pu (.bool (decide (a0.Client ≠ a1.Client))) (PO.neq rfl rfl) rfl ?_
 refine Pm (.bool (decide (a0.Client ≠ a1.Client))) rfl rfl ?_
 rcases Bool.eq_false_or_eq_true (decide (a0.Client ≠ a1.Client)) with hb25 | hb25
 have h := ite_t hb25 h
 iterate 5 refine Of 10 rfl rfl hb25 rfl ?_
 refine Pu (.bool true) (PO.pickT rfl hb25 rfl) rfl ?_
 refine Pm (.bool true) rfl rfl ?_
 iterate 5 refine Of 17 rfl rfl rfl rfl ?_
 refine Pu (.bool true) (PO.pickT rfl rfl rfl) rfl ?_
 refine Pm (.bool true) rfl rfl ?_
 iterate 5 refine Of 24 rfl rfl rfl rfl ?_
 refine Pu (.bool true) (PO.pickT rfl rfl rfl) rfl ?_
 refine Pm (.bool true) rfl rfl ?_
 iterate 5 refine Of 31 rfl rfl rfl rfl ?_
 refine Pu (.bool true) (PO.pickT rfl rfl rfl) rfl ?_
 refine Pm (.bool true) rfl rfl ?_
 iterate 5 refine Of 38 rfl rfl rfl rfl ?_
 refine Pu (.bool true) (PO.pickT rfl rfl rfl) rfl ?_
 refine WL.nil ?_
 obtain rfl := Option.some.inj h
 refine WQ.thenJ ?_
 exact ⟨(IM.le.refl _), rfl, rfl, rfl, rfl⟩
 have h := ite_f hb25 h
 refine On 10 rfl rfl hb25 ?_
 refine Pu (.pointer (some ⟨g21, 1, none⟩)) (PO.fieldAddr fo68_1 rfl rfl) rfl ?_
 refine On 10 rfl rfl hb25 ?_
 refine Pu (.int .i64 a0.Serial) (PO.loadB 1 pl3 rfl rfl rfl) rfl ?_
 refine On 10 rfl rfl hb25 ?_
 refine Pu (.pointer (some ⟨g22, 1, none⟩)) (PO.fieldAddr fo68_1 rfl rfl) rfl ?_
 refine On 10 rfl rfl hb25 ?_
 refine Pu (.int .i64 a1.Serial) (PO.loadB 0 pl3 rfl rfl rfl) rfl ?_
 refine On 10 rfl rfl hb25 ?_
 refine Pu (.bool (decide (a0.Serial ≠ a1.Serial))) (PO.neq rfl rfl) rfl ?_
 refine Pu (.bool (decide (a0.Serial ≠ a1.Serial))) (PO.pickF rfl hb25 rfl) rfl ?_
 refine Pm (.bool (decide (a0.Serial ≠ a1.Serial))) rfl rfl ?_
 rcases Bool.eq_false_or_eq_true (decide (a0.Serial ≠ a1.Serial)) with hb26 | hb26
 have h := ite_t hb26 h
 iterate 5 refine Of 17 rfl rfl hb26 rfl ?_
 refine Pu (.bool true) (PO.pickT rfl hb26 rfl) rfl ?_
 refine Pm (.bool true) rfl rfl ?_
 iterate 5 refine Of 24 rfl rfl rfl rfl ?_
 refine Pu (.bool true) (PO.pickT rfl rfl rfl) rfl ?_
 refine Pm (.bool true) rfl rfl ?_
 iterate 5 refine Of 31 rfl rfl rfl rfl ?_
 refine Pu (.bool true) (PO.pickT rfl rfl rfl) rfl ?_
 refine Pm (.bool true) rfl rfl ?_
 iterate 5 refine Of 38 rfl rfl rfl rfl ?_
 refine Pu (.bool true) (PO.pickT rfl rfl rfl) rfl ?_
 refine WL.nil ?_
 obtain rfl := Option.some.inj h
 refine WQ.thenJ ?_
 exact ⟨(IM.le.refl _), rfl, rfl, rfl, rfl⟩
 have h := ite_f hb26 h
 refine On 17 rfl rfl hb26 ?_
 refine Pu (.pointer (some ⟨g21, 2, none⟩)) (PO.fieldAddr fo68_2 rfl rfl) rfl ?_
 refine On 17 rfl rfl hb26 ?_
 refine Pu (.int .i64 a0.Kind) (PO.loadB 1 pl3 rfl rfl rfl) rfl ?_
 refine On 17 rfl rfl hb26 ?_
 refine Pu (.pointer (some ⟨g22, 2, none⟩)) (PO.fieldAddr fo68_2 rfl rfl) rfl ?_
 refine On 17 rfl rfl hb26 ?_
 refine Pu (.int .i64 a1.Kind) (PO.loadB 0 pl3 rfl rfl rfl) rfl ?_
 refine On 17 rfl rfl hb26 ?_
 refine Pu (.bool (decide (a0.Kind ≠ a1.Kind))) (PO.neq rfl rfl) rfl ?_
 refine Pu (.bool (decide (a0.Kind ≠ a1.Kind))) (PO.pickF rfl hb26 rfl) rfl ?_
 refine Pm (.bool (decide (a0.Kind ≠ a1.Kind))) rfl rfl ?_
 rcases Bool.eq_false_or_eq_true (decide (a0.Kind ≠ a1.Kind)) with hb27 | hb27
 have h := ite_t hb27 h
 iterate 5 refine Of 24 rfl rfl hb27 rfl ?_
 refine Pu (.bool true) (PO.pickT rfl hb27 rfl) rfl ?_
 refine Pm (.bool true) rfl rfl ?_
 iterate 5 refine Of 31 rfl rfl rfl rfl ?_
 refine Pu (.bool true) (PO.pickT rfl rfl rfl) rfl ?_
 refine Pm (.bool true) rfl rfl ?_
 iterate 5 refine Of 38 rfl rfl rfl rfl ?_
 refine Pu (.bool true) (PO.pickT rfl rfl rfl) rfl ?_
 refine WL.nil ?_
 obtain rfl := Option.some.inj h
 refine WQ.thenJ ?_
 exact ⟨(IM.le.refl _), rfl, rfl, rfl, rfl⟩
 have h := ite_f hb27 h
 refine On 24 rfl rfl hb27 ?_
 refine Pu (.pointer (some ⟨g21, 3, none⟩)) (PO.fieldAddr fo68_3 rfl rfl) rfl ?_
 refine On 24 rfl rfl hb27 ?_
 refine Pu (.string a0.Name) (PO.loadB 1 pl9 rfl rfl rfl) rfl ?_
 refine On 24 rfl rfl hb27 ?_
 refine Pu (.pointer (some ⟨g22, 3, none⟩)) (PO.fieldAddr fo68_3 rfl rfl) rfl ?_
 refine On 24 rfl rfl hb27 ?_
 refine Pu (.string a1.Name) (PO.loadB 0 pl9 rfl rfl rfl) rfl ?_
 refine On 24 rfl rfl hb27 ?_
 refine Pu (.bool (!decide (a0.Name = a1.Name))) (PO.sneq rfl rfl) rfl ?_
 refine Pu (.bool (!decide (a0.Name = a1.Name))) (PO.pickF rfl hb27 rfl) rfl ?_
 refine Pm (.bool (!decide (a0.Name = a1.Name))) rfl rfl ?_
 rcases Bool.eq_false_or_eq_true (!decide (a0.Name = a1.Name)) with hb28 | hb28
 have h := ite_t hb28 h
 iterate 5 refine Of 31 rfl rfl hb28 rfl ?_
 refine Pu (.bool true) (PO.pickT rfl hb28 rfl) rfl ?_
 refine Pm (.bool true) rfl rfl ?_
 iterate 5 refine Of 38 rfl rfl rfl rfl ?_
 refine Pu (.bool true) (PO.pickT rfl rfl rfl) rfl ?_
 refine WL.nil ?_
 obtain rfl := Option.some.inj h
 refine WQ.thenJ ?_
 exact ⟨(IM.le.refl _), rfl, rfl, rfl, rfl⟩
 have h := ite_f hb28 h
 refine On 31 rfl rfl hb28 ?_
 refine Pu (.pointer (some ⟨g21, 4, none⟩)) (PO.fieldAddr fo68_4 rfl rfl) rfl ?_
 refine On 31 rfl rfl hb28 ?_
 refine Pu (.string a0.Key) (PO.loadB 1 pl9 rfl rfl rfl) rfl ?_
 refine On 31 rfl rfl hb28 ?_
 refine Pu (.pointer (some ⟨g22, 4, none⟩)) (PO.fieldAddr fo68_4 rfl rfl) rfl ?_
 refine On 31 rfl rfl hb28 ?_
 refine Pu (.string a1.Key) (PO.loadB 0 pl9 rfl rfl rfl) rfl ?_
 refine On 31 rfl rfl hb28 ?_
 refine Pu (.bool (!decide (a0.Key = a1.Key))) (PO.sneq rfl rfl) rfl ?_
 refine Pu (.bool (!decide (a0.Key = a1.Key))) (PO.pickF rfl hb28 rfl) rfl ?_
 refine Pm (.bool (!decide (a0.Key = a1.Key))) rfl rfl ?_
 rcases Bool.eq_false_or_eq_true (!decide (a0.Key = a1.Key)) with hb29 | hb29
 have h := ite_t hb29 h
 iterate 5 refine Of 38 rfl rfl hb29 rfl ?_
 refine Pu (.bool true) (PO.pickT rfl hb29 rfl) rfl ?_
 refine WL.nil ?_
 obtain rfl := Option.some.inj h
 refine WQ.thenJ ?_
 exact ⟨(IM.le.refl _), rfl, rfl, rfl, rfl⟩
 have h := ite_f hb29 h
 refine On 38 rfl rfl hb29 ?_
 refine Pu (.pointer (some ⟨g21, 5, none⟩)) (PO.fieldAddr fo68_5 rfl rfl) rfl ?_
 refine On 38 rfl rfl hb29 ?_
 refine Pu (.string a0.Value) (PO.loadB 1 pl9 rfl rfl rfl) rfl ?_
 refine On 38 rfl rfl hb29 ?_
 refine Pu (.pointer (some ⟨g22, 5, none⟩)) (PO.fieldAddr fo68_5 rfl rfl) rfl ?_
 refine On 38 rfl rfl hb29 ?_
 refine Pu (.string a1.Value) (PO.loadB 0 pl9 rfl rfl rfl) rfl ?_
 refine On 38 rfl rfl hb29 ?_
 refine Pu (.bool (!decide (a0.Value = a1.Value))) (PO.sneq rfl rfl) rfl ?_
 refine Pu (.bool (!decide (a0.Value = a1.Value))) (PO.pickF rfl hb29 rfl) rfl ?_
 refine WL.nil ?_
 obtain rfl := Option.some.inj h
 refine WQ.thenJ ?_
 exact ⟨(IM.le.refl _), rfl, rfl, rfl, rfl⟩
 rintro ρ24 M24 H24 ⟨hle24, rfl, hs24_2, hs24_3, hs24_44⟩
 have h1_10 := h1_10.mono hle24
 have h0_10 := h0_10.mono hle24
 refine WC.cond (b := x23) hs24_44 (fun hb30 => ?_) (fun hb30 => ?_)
 have h := ite_t hb30 h
 refine Sr ?_
 refine Pa (.bool false) rfl rfl ?_
 refine Nt ?_
 refine WC.ret ?_
 refine WQ.thenR ?_
 refine WQ.drop ?_
 refine WQ.drop ?_
 exact WQ.returnsF h [] rfl (results1 rfl rfl) hle24 ⟨rfl, rfl⟩
 have h := ite_f hb30 h
 refine WC.skip ?_
 refine WQ.thenC ?_
 refine WC.seq ?_
 obtain ⟨x31, hj32, h⟩ := bnd h
 refine WC.joinF (fun (x31 : Bool) ρ' M' H' => M24.le M' ∧ [(g22, .cells (l68 a1 v1_10).toArray 68 (0, 0))] :: [(g21, .cells (l68 a0 v0_10).toArray 68 (0, 0))] :: F = H' ∧ ρ' 2 = (.pointer (some ⟨g21, 0, none⟩)) ∧ ρ' 3 = (.pointer (some ⟨g22, 0, none⟩)) ∧ ρ' 84 = (.bool x31)) x31 ?_ ?_
 have h332 := h
 have h := hj32
 refine WC.region ?_
 refine Pu (.pointer (some ⟨g21, 6, none⟩)) (PO.fieldAddr fo68_6 hs24_2 rfl) rfl ?_
 refine Pu (.bool a0.Flag) (PO.loadB 1 pl4 rfl rfl rfl) rfl ?_
 refine Pu (.pointer (some ⟨g22, 6, none⟩)) (PO.fieldAddr fo68_6 hs24_3 rfl) rfl ?_
 refine Pu (.bool a1.Flag) (PO.loadB 0 pl4 rfl rfl rfl) rfl ?_
 refine Pu (.bool (!(a0.Flag == a1.Flag))) (PO.bneq Tryd.underlying4 rfl rfl) rfl ?_
 refine Pm (.bool (!(a0.Flag == a1.Flag))) rfl rfl ?_
 rcases Bool.eq_false_or_eq_true (!(a0.Flag == a1.Flag)) with hb33 | hb33
 have h := ite_t hb33 h
 iterate 5 refine Of 50 rfl rfl hb33 rfl ?_
 refine Pu (.bool true) (PO.pickT rfl hb33 rfl) rfl ?_
 refine Pm (.bool true) rfl rfl ?_
 iterate 5 refine Of 57 rfl rfl rfl rfl ?_
 refine Pu (.bool true) (PO.pickT rfl rfl rfl) rfl ?_
 refine Pm (.bool true) rfl rfl ?_
 iterate 5 refine Of 64 rfl rfl rfl rfl ?_
 refine Pu (.bool true) (PO.pickT rfl rfl rfl) rfl ?_
 refine Pm (.bool true) rfl rfl ?_
 iterate 5 refine Of 71 rfl rfl rfl rfl ?_
 refine Pu (.bool true) (PO.pickT rfl rfl rfl) rfl ?_
 refine Pm (.bool true) rfl rfl ?_
 iterate 5 refine Of 78 rfl rfl rfl rfl ?_
 refine Pu (.bool true) (PO.pickT rfl rfl rfl) rfl ?_
 refine WL.nil ?_
 obtain rfl := Option.some.inj h
 refine WQ.thenJ ?_
 exact ⟨(IM.le.refl _), rfl, hs24_2, hs24_3, rfl⟩
 have h := ite_f hb33 h
 refine On 50 rfl rfl hb33 ?_
 refine Pu (.pointer (some ⟨g21, 7, none⟩)) (PO.fieldAddr fo68_7 hs24_2 rfl) rfl ?_
 refine On 50 rfl rfl hb33 ?_
 refine Pu (.int .i64 a0.Parts) (PO.loadB 1 pl3 rfl rfl rfl) rfl ?_
 refine On 50 rfl rfl hb33 ?_
 refine Pu (.pointer (some ⟨g22, 7, none⟩)) (PO.fieldAddr fo68_7 hs24_3 rfl) rfl ?_
 refine On 50 rfl rfl hb33 ?_
 refine Pu (.int .i64 a1.Parts) (PO.loadB 0 pl3 rfl rfl rfl) rfl ?_
 refine On 50 rfl rfl hb33 ?_
 refine Pu (.bool (decide (a0.Parts ≠ a1.Parts))) (PO.neq rfl rfl) rfl ?_
 refine Pu (.bool (decide (a0.Parts ≠ a1.Parts))) (PO.pickF rfl hb33 rfl) rfl ?_
 refine Pm (.bool (decide (a0.Parts ≠ a1.Parts))) rfl rfl ?_
 rcases Bool.eq_false_or_eq_true (decide (a0.Parts ≠ a1.Parts)) with hb34 | hb34
 have h := ite_t hb34 h
 iterate 5 refine Of 57 rfl rfl hb34 rfl ?_
 refine Pu (.bool true) (PO.pickT rfl hb34 rfl) rfl ?_
 refine Pm (.bool true) rfl rfl ?_
 iterate 5 refine Of 64 rfl rfl rfl rfl ?_
 refine Pu (.bool true) (PO.pickT rfl rfl rfl) rfl ?_
 refine Pm (.bool true) rfl rfl ?_
 iterate 5 refine Of 71 rfl rfl rfl rfl ?_
 refine Pu (.bool true) (PO.pickT rfl rfl rfl) rfl ?_
 refine Pm (.bool true) rfl rfl ?_
 iterate 5 refine Of 78 rfl rfl rfl rfl ?_
 refine Pu (.bool true) (PO.pickT rfl rfl rfl) rfl ?_
 refine WL.nil ?_
 obtain rfl := Option.some.inj h
 refine WQ.thenJ ?_
 exact ⟨(IM.le.refl _), rfl, hs24_2, hs24_3, rfl⟩
 have h := ite_f hb34 h
 refine On 57 rfl rfl hb34 ?_
 refine Pu (.pointer (some ⟨g21, 8, none⟩)) (PO.fieldAddr fo68_8 hs24_2 rfl) rfl ?_
 refine On 57 rfl rfl hb34 ?_
 refine Pu (.int .i64 a0.Replicas) (PO.loadB 1 pl3 rfl rfl rfl) rfl ?_
 refine On 57 rfl rfl hb34 ?_
 refine Pu (.pointer (some ⟨g22, 8, none⟩)) (PO.fieldAddr fo68_8 hs24_3 rfl) rfl ?_
 refine On 57 rfl rfl hb34 ?_
 refine Pu (.int .i64 a1.Replicas) (PO.loadB 0 pl3 rfl rfl rfl) rfl ?_
 refine On 57 rfl rfl hb34 ?_
 refine Pu (.bool (decide (a0.Replicas ≠ a1.Replicas))) (PO.neq rfl rfl) rfl ?_
 refine Pu (.bool (decide (a0.Replicas ≠ a1.Replicas))) (PO.pickF rfl hb34 rfl) rfl ?_
 refine Pm (.bool (decide (a0.Replicas ≠ a1.Replicas))) rfl rfl ?_
 rcases Bool.eq_false_or_eq_true (decide (a0.Replicas ≠ a1.Replicas)) with hb35 | hb35
 have h := ite_t hb35 h
 iterate 5 refine Of 64 rfl rfl hb35 rfl ?_
 refine Pu (.bool true) (PO.pickT rfl hb35 rfl) rfl ?_
 refine Pm (.bool true) rfl rfl ?_
 iterate 5 refine Of 71 rfl rfl rfl rfl ?_
 refine Pu (.bool true) (PO.pickT rfl rfl rfl) rfl ?_
 refine Pm (.bool true) rfl rfl ?_
 iterate 5 refine Of 78 rfl rfl rfl rfl ?_
 refine Pu (.bool true) (PO.pickT rfl rfl rfl) rfl ?_
 refine WL.nil ?_
 obtain rfl := Option.some.inj h
 refine WQ.thenJ ?_
 exact ⟨(IM.le.refl _), rfl, hs24_2, hs24_3, rfl⟩
 have h := ite_f hb35 h
 refine On 64 rfl rfl hb35 ?_
 refine Pu (.pointer (some ⟨g21, 9, none⟩)) (PO.fieldAddr fo68_9 hs24_2 rfl) rfl ?_
 refine On 64 rfl rfl hb35 ?_
 refine Pu (.int .i64 a0.Part) (PO.loadB 1 pl3 rfl rfl rfl) rfl ?_
 refine On 64 rfl rfl hb35 ?_
 refine Pu (.pointer (some ⟨g22, 9, none⟩)) (PO.fieldAddr fo68_9 hs24_3 rfl) rfl ?_
 refine On 64 rfl rfl hb35 ?_
 refine Pu (.int .i64 a1.Part) (PO.loadB 0 pl3 rfl rfl rfl) rfl ?_
 refine On 64 rfl rfl hb35 ?_
 refine Pu (.bool (decide (a0.Part ≠ a1.Part))) (PO.neq rfl rfl) rfl ?_
 refine Pu (.bool (decide (a0.Part ≠ a1.Part))) (PO.pickF rfl hb35 rfl) rfl ?_
 refine Pm (.bool (decide (a0.Part ≠ a1.Part))) rfl rfl ?_
 rcases Bool.eq_false_or_eq_true (decide (a0.Part ≠ a1.Part)) with hb36 | hb36
 have h := ite_t hb36 h
 iterate 5 refine Of 71 rfl rfl hb36 rfl ?_
 refine Pu (.bool true) (PO.pickT rfl hb36 rfl) rfl ?_
 refine Pm (.bool true) rfl rfl ?_
 iterate 5 refine Of 78 rfl rfl rfl rfl ?_
 refine Pu (.bool true) (PO.pickT rfl rfl rfl) rfl ?_
 refine WL.nil ?_
 obtain rfl := Option.some.inj h
 refine WQ.thenJ ?_
 exact ⟨(IM.le.refl _), rfl, hs24_2, hs24_3, rfl⟩
 have h := ite_f hb36 h
 refine On 71 rfl rfl hb36 ?_
 refine Pu (.pointer (some ⟨g21, 11, none⟩)) (PO.fieldAddr fo68_11 hs24_2 rfl) rfl ?_
 refine On 71 rfl rfl hb36 ?_
 refine Pu (.int .i64 a0.Broker) (PO.loadB 1 pl3 rfl rfl rfl) rfl ?_
 refine On 71 rfl rfl hb36 ?_
 refine Pu (.pointer (some ⟨g22, 11, none⟩)) (PO.fieldAddr fo68_11 hs24_3 rfl) rfl ?_
 refine On 71 rfl rfl hb36 ?_
 refine Pu (.int .i64 a1.Broker) (PO.loadB 0 pl3 rfl rfl rfl) rfl ?_
 refine On 71 rfl rfl hb36 ?_
 refine Pu (.bool (decide (a0.Broker ≠ a1.Broker))) (PO.neq rfl rfl) rfl ?_
 refine Pu (.bool (decide (a0.Broker ≠ a1.Broker))) (PO.pickF rfl hb36 rfl) rfl ?_
 refine Pm (.bool (decide (a0.Broker ≠ a1.Broker))) rfl rfl ?_
 rcases Bool.eq_false_or_eq_true (decide (a0.Broker ≠ a1.Broker)) with hb37 | hb37
 have h := ite_t hb37 h
 iterate 5 refine Of 78 rfl rfl hb37 rfl ?_
 refine Pu (.bool true) (PO.pickT rfl hb37 rfl) rfl ?_
 refine WL.nil ?_
 obtain rfl := Option.some.inj h
 refine WQ.thenJ ?_
 exact ⟨(IM.le.refl _), rfl, hs24_2, hs24_3, rfl⟩
 have h := ite_f hb37 h
 refine On 78 rfl rfl hb37 ?_
 refine Pu (.pointer (some ⟨g21, 12, none⟩)) (PO.fieldAddr fo68_12 hs24_2 rfl) rfl ?_
 refine On 78 rfl rfl hb37 ?_
 refine Pu (.int .i64 a0.Epoch) (PO.loadB 1 pl3 rfl rfl rfl) rfl ?_
 refine On 78 rfl rfl hb37 ?_
 refine Pu (.pointer (some ⟨g22, 12, none⟩)) (PO.fieldAddr fo68_12 hs24_3 rfl) rfl ?_
 refine On 78 rfl rfl hb37 ?_
 refine Pu (.int .i64 a1.Epoch) (PO.loadB 0 pl3 rfl rfl rfl) rfl ?_
 refine On 78 rfl rfl hb37 ?_
 refine Pu (.bool (decide (a0.Epoch ≠ a1.Epoch))) (PO.neq rfl rfl) rfl ?_
 refine Pu (.bool (decide (a0.Epoch ≠ a1.Epoch))) (PO.pickF rfl hb37 rfl) rfl ?_
 refine WL.nil ?_
 obtain rfl := Option.some.inj h
 refine WQ.thenJ ?_
 exact ⟨(IM.le.refl _), rfl, hs24_2, hs24_3, rfl⟩
 rintro ρ32 M32 H32 ⟨hle32, rfl, hs32_2, hs32_3, hs32_84⟩
 have h1_10 := h1_10.mono hle32
 have h0_10 := h0_10.mono hle32
 refine WC.cond (b := x31) hs32_84 (fun hb38 => ?_) (fun hb38 => ?_)
 have h := ite_t hb38 h
 refine Sr ?_
 refine Pa (.bool false) rfl rfl ?_
 refine Nt ?_
 refine WC.ret ?_
 refine WQ.thenR ?_
 refine WQ.drop ?_
 refine WQ.drop ?_
 exact WQ.returnsF h [] rfl (results1 rfl rfl) (hle24.trans hle32) ⟨rfl, rfl⟩
 have h := ite_f hb38 h
 refine WC.skip ?_
 refine WQ.thenC ?_
 obtain ⟨x39, hj40, h⟩ := bnd h
 refine WC.joinF (fun (x39 : Bool) ρ' M' H' => M32.le M' ∧ [(g22, .cells (l68 a1 v1_10).toArray 68 (0, 0))] :: [(g21, .cells (l68 a0 v0_10).toArray 68 (0, 0))] :: F = H' ∧ ρ' 4 = (.bool x39)) x39 ?_ ?_
 have h340 := h
 have h := hj40
 refine WC.region ?_
 refine Pu (.pointer (some ⟨g21, 13, none⟩)) (PO.fieldAddr fo68_13 hs32_2 rfl) rfl ?_
 refine Pu (.string a0.Rack) (PO.loadB 1 pl9 rfl rfl rfl) rfl ?_
 refine Pu (.pointer (some ⟨g22, 13, none⟩)) (PO.fieldAddr fo68_13 hs32_3 rfl) rfl ?_
 refine Pu (.string a1.Rack) (PO.loadB 0 pl9 rfl rfl rfl) rfl ?_
 refine Pu (.bool (decide (a0.Rack = a1.Rack))) (PO.seql rfl rfl) rfl ?_
 refine Pm (.bool (decide (a0.Rack = a1.Rack))) rfl rfl ?_
 rcases Bool.eq_false_or_eq_true (decide (a0.Rack = a1.Rack)) with hb41 | hb41
 have h := ite_t hb41 h
 refine On 90 rfl rfl hb41 ?_
 refine Pu (.pointer (some ⟨g21, 14, none⟩)) (PO.fieldAddr fo68_14 hs32_2 rfl) rfl ?_
 refine On 90 rfl rfl hb41 ?_
 refine Pu (a66_ a0.Word) (PO.loadBA (cs := (l66 a0.Word)) 1 ag66 sz66 rfl rfl rfl) rfl ?_
 refine On 90 rfl rfl hb41 ?_
 refine Pu (.pointer (some ⟨g22, 14, none⟩)) (PO.fieldAddr fo68_14 hs32_3 rfl) rfl ?_
 refine On 90 rfl rfl hb41 ?_
 refine Pu (a66_ a1.Word) (PO.loadBA (cs := (l66 a1.Word)) 0 ag66 sz66 rfl rfl rfl) rfl ?_
 refine On 90 rfl rfl hb41 ?_
 refine Pu (.bool (andL [decide (a0.Word.Broker = a1.Word.Broker), decide (a0.Word.Epoch = a1.Word.Epoch), decide (a0.Word.High = a1.Word.High), a0.Word.Fence == a1.Word.Fence, a0.Word.Leave == a1.Word.Leave])) (PO.eqAgg eg66 rfl rfl (run_equal_struct Tryd.underlying66 eq66 (EqFs.cons (by decide) pl3 rfl rfl (EqC.int Tryd.underlying3) (EqFs.cons (by decide) pl3 rfl rfl (EqC.int Tryd.underlying3) (EqFs.cons (by decide) pl3 rfl rfl (EqC.int Tryd.underlying3) (EqFs.cons (by decide) pl4 rfl rfl (EqC.bool Tryd.underlying4) (EqFs.cons (by decide) pl4 rfl rfl (EqC.bool Tryd.underlying4) EqFs.nil))))))) rfl ?_
 refine Pu (.bool (andL [decide (a0.Word.Broker = a1.Word.Broker), decide (a0.Word.Epoch = a1.Word.Epoch), decide (a0.Word.High = a1.Word.High), a0.Word.Fence == a1.Word.Fence, a0.Word.Leave == a1.Word.Leave])) (PO.pickT rfl hb41 rfl) rfl ?_
 refine Pm (.bool (andL [decide (a0.Word.Broker = a1.Word.Broker), decide (a0.Word.Epoch = a1.Word.Epoch), decide (a0.Word.High = a1.Word.High), a0.Word.Fence == a1.Word.Fence, a0.Word.Leave == a1.Word.Leave])) rfl rfl ?_
 rcases Bool.eq_false_or_eq_true (andL [decide (a0.Word.Broker = a1.Word.Broker), decide (a0.Word.Epoch = a1.Word.Epoch), decide (a0.Word.High = a1.Word.High), a0.Word.Fence == a1.Word.Fence, a0.Word.Leave == a1.Word.Leave]) with hb42 | hb42
 have h := ite_t hb42 h
 refine On 97 rfl rfl hb42 ?_
 refine Pu (.pointer (some ⟨g21, 10, none⟩)) (PO.fieldAddr fo68_10 hs32_2 rfl) rfl ?_
 refine On 97 rfl rfl hb42 ?_
 refine Pu v0_10 (PO.loadB 1 pl64 rfl rfl rfl) rfl ?_
 refine On 97 rfl rfl hb42 ?_
 refine Pu (.pointer (some ⟨g22, 10, none⟩)) (PO.fieldAddr fo68_10 hs32_3 rfl) rfl ?_
 refine On 97 rfl rfl hb42 ?_
 refine Pu v1_10 (PO.loadB 0 pl64 rfl rfl rfl) rfl ?_
 refine On 97 rfl rfl hb42 ?_
 obtain ⟨r43, hr44, h⟩ := bnd h
 refine WL.eff (EO.call0 co69 (f_ref02_Ints_ok a0.Ids a1.Ids _ _ _ h0_10 h1_10 r43 hr44) (args2 rfl rfl)) rfl ?_
 rintro _ M45 _ hle46 ⟨_, ⟨rfl, rfl⟩, rfl⟩
 have h0_10 := h0_10.mono hle46
 have h1_10 := h1_10.mono hle46
 refine WL.a0 ?_
 refine Pu (.bool r43) (PO.pickT rfl hb42 rfl) rfl ?_
 refine Pa (.bool r43) rfl rfl ?_
 refine WL.nil ?_
 obtain rfl := Option.some.inj h
 refine WQ.thenJ ?_
 exact ⟨hle46, rfl, rfl⟩
 have h := ite_f hb42 h
 iterate 5 refine Of 97 rfl rfl hb42 rfl ?_
 refine Pu (.bool false) (PO.pickF rfl hb42 rfl) rfl ?_
 refine Pa (.bool false) rfl rfl ?_
 refine WL.nil ?_
 obtain rfl := Option.some.inj h
 refine WQ.thenJ ?_
 exact ⟨(IM.le.refl _), rfl, rfl⟩
 have h := ite_f hb41 h
 iterate 5 refine Of 90 rfl rfl hb41 rfl ?_
 refine Pu (.bool false) (PO.pickF rfl hb41 rfl) rfl ?_
 refine Pm (.bool false) rfl rfl ?_
 iterate 5 refine Of 97 rfl rfl rfl rfl ?_
 refine Pu (.bool false) (PO.pickF rfl rfl rfl) rfl ?_
 refine Pa (.bool false) rfl rfl ?_
 refine WL.nil ?_
 obtain rfl := Option.some.inj h
 refine WQ.thenJ ?_
 exact ⟨(IM.le.refl _), rfl, rfl⟩
 rintro ρ40 M40 H40 ⟨hle40, rfl, hs40_4⟩
 have h1_10 := h1_10.mono hle40
 have h0_10 := h0_10.mono hle40
 refine WC.ret ?_
 refine WQ.drop ?_
 refine WQ.drop ?_
 exact WQ.returnsF h [] rfl (results1 rfl hs40_4) ((hle24.trans hle32).trans hle40) ⟨rfl, rfl⟩

noncomputable def f_law22_AskChecks (a0 : T_api_Request) (a1 : T_api_Request) (a2 : T_api_Reply) : Option Bool :=
  ((((f_ref20_Short a0).bind fun (r26 : Bool) => (if (!r26) = true then (some true) else ((f_ref20_Short a1).bind fun (r32 : Bool) => (some (!r32))))) : Option Bool).bind fun (x24 : Bool) => (if x24 = true then ((f_law22_works).bind fun (r38 : Bool) => (some r38)) else ((((f_ask_Check a0).bind fun (r45 : GErr) => ((f_ref22_Check a0).bind fun (r50 : T_ref22_Wrong) => ((f_law22_wrong r45 r50).bind fun (r55 : Bool) => (if r55 = true then ((f_ask_CheckReply a2).bind fun (r61 : GErr) => ((f_ref22_CheckReply a2).bind fun (r66 : T_ref22_Wrong) => ((f_law22_wrong r61 r66).bind fun (r71 : Bool) => (if r71 = true then ((f_ask_Same a1 a0).bind fun (r77 : Bool) => ((f_ref22_Same a1 a0).bind fun (r82 : Bool) => (if (r77 == r82) = true then ((f_law22_works).bind fun (r88 : Bool) => (some r88)) else (some false)))) else (some false))))) else (some false))))) : Option Bool).bind fun (x43 : Bool) => (some x43))))
def f_law22_AskChecks_post (a0 : T_api_Request) (a1 : T_api_Request) (a2 : T_api_Reply) (v0_10 v1_10 : Value) : Bool → Value → IM → HL → Prop :=
  fun (r0 : Bool) (v : Value) (M' : IM) (H' : HL) => (.bool r0) = v ∧ H' = []
set_option maxHeartbeats 8000000 in
set_option maxRecDepth 100000 in
theorem f_law22_AskChecks_ok (a0 : T_api_Request) (a1 : T_api_Request) (a2 : T_api_Reply) (M : IM) (v0_10 v1_10 : Value) (h0_10 : RS (Kd.int .i64) M v0_10 a0.Ids) (h1_10 : RS (Kd.int .i64) M v1_10 a1.Ids) (hE : Env M) (res : Bool) (h : f_law22_AskChecks a0 a1 a2 = some res) :
    Tri Tryd.prog 8 #[(a68_ a0 v0_10), (a68_ a1 v1_10), (a72_ a2)] M [] (f_law22_AskChecks_post a0 a1 a2 v0_10 v1_10 res) := by
 unfold f_law22_AskChecks at h
 refine Tri.enter (fn := Tryd.f8) Tryd.func8 rfl (Nat.le_of_ble_eq_true rfl) ?_
 intro F ρ hρ
 refine Sr ?_
 refine WL.eff (EO.box (cs := (l68 a0 v0_10).toArray) (congrArg Value.cells (asE (a68_ a0 v0_10) (hρ 0)))) rfl ?_
 rintro _ _ _ - ⟨rfl, g21, rfl, rfl⟩
 refine WL.eff (EO.box (cs := (l68 a1 v1_10).toArray) (congrArg Value.cells (asE (a68_ a1 v1_10) (hρ 1)))) rfl ?_
 rintro _ _ _ - ⟨rfl, g22, rfl, rfl⟩
 refine WL.eff (EO.box (cs := (l72 a2).toArray) (congrArg Value.cells (asE (a72_ a2) (hρ 2)))) rfl ?_
 rintro _ _ _ - ⟨rfl, g23, rfl, rfl⟩
 refine Pa (.bool false) rfl rfl ?_
 refine Nt ?_
 refine WC.seq ?_
 obtain ⟨x24, hj25, h⟩ := bnd h
 refine WC.joinF (fun (x24 : Bool) ρ' M' H' => M.le M' ∧ [(g23, .cells (l72 a2).toArray 72 (0, 0))] :: [(g22, .cells (l68 a1 v1_10).toArray 68 (0, 0))] :: [(g21, .cells (l68 a0 v0_10).toArray 68 (0, 0))] :: F = H' ∧ ρ' 3 = (.pointer (some ⟨g21, 0, none⟩)) ∧ ρ' 4 = (.pointer (some ⟨g22, 0, none⟩)) ∧ ρ' 5 = (.pointer (some ⟨g23, 0, none⟩)) ∧ ρ' 14 = (.bool x24)) x24 ?_ ?_
 have h325 := h
 have h := hj25
 refine WC.region ?_
 refine Pu (a68_ a0 v0_10) (PO.loadBA (cs := (l68 a0 v0_10)) 2 ag68 sz68 rfl rfl rfl) rfl ?_
 obtain ⟨r26, hr27, h⟩ := bnd h
 refine WL.eff (EO.call0 co27 (f_ref20_Short_ok a0 _ _ h0_10 r26 hr27) (args1 rfl)) rfl ?_
 rintro _ M28 _ hle29 ⟨_, ⟨rfl, rfl⟩, rfl⟩
 have h0_10 := h0_10.mono hle29
 have h1_10 := h1_10.mono hle29
 have hE := hE.mono hle29
 refine WL.a0 ?_
 refine Pu (.bool (!r26)) (PO.not rfl) rfl ?_
 refine Pm (.bool (!r26)) rfl rfl ?_
 rcases Bool.eq_false_or_eq_true (!r26) with hb31 | hb31
 have h := ite_t hb31 h
 iterate 3 refine Of 10 rfl rfl hb31 rfl ?_
 refine Pu (.bool true) (PO.pickT rfl hb31 rfl) rfl ?_
 refine WL.nil ?_
 obtain rfl := Option.some.inj h
 refine WQ.thenJ ?_
 exact ⟨hle29, rfl, rfl, rfl, rfl, rfl⟩
 have h := ite_f hb31 h
 refine On 10 rfl rfl hb31 ?_
 refine Pu (a68_ a1 v1_10) (PO.loadBA (cs := (l68 a1 v1_10)) 1 ag68 sz68 rfl rfl rfl) rfl ?_
 refine On 10 rfl rfl hb31 ?_
 obtain ⟨r32, hr33, h⟩ := bnd h
 refine WL.eff (EO.call0 co27 (f_ref20_Short_ok a1 _ _ h1_10 r32 hr33) (args1 rfl)) rfl ?_
 rintro _ M34 _ hle35 ⟨_, ⟨rfl, rfl⟩, rfl⟩
 have h0_10 := h0_10.mono hle35
 have h1_10 := h1_10.mono hle35
 have hE := hE.mono hle35
 refine WL.a0 ?_
 refine On 10 rfl rfl hb31 ?_
 refine Pu (.bool (!r32)) (PO.not rfl) rfl ?_
 refine Pu (.bool (!r32)) (PO.pickF rfl hb31 rfl) rfl ?_
 refine WL.nil ?_
 obtain rfl := Option.some.inj h
 refine WQ.thenJ ?_
 exact ⟨(hle29.trans hle35), rfl, rfl, rfl, rfl, rfl⟩
 rintro ρ25 M25 H25 ⟨hle25, rfl, hs25_3, hs25_4, hs25_5, hs25_14⟩
 have h1_10 := h1_10.mono hle25
 have h0_10 := h0_10.mono hle25
 have hE := hE.mono hle25
 refine WC.cond (b := x24) hs25_14 (fun hb37 => ?_) (fun hb37 => ?_)
 have h := ite_t hb37 h
 refine Sr ?_
 obtain ⟨r38, hr39, h⟩ := bnd h
 refine WL.eff (EO.call0 co28 (f_law22_works_ok _ r38 hr39) (args0)) rfl ?_
 rintro _ M40 _ hle41 ⟨_, ⟨rfl, rfl⟩, rfl⟩
 have h1_10 := h1_10.mono hle41
 have h0_10 := h0_10.mono hle41
 have hE := hE.mono hle41
 refine WL.a0 ?_
 refine Pa (.bool r38) rfl rfl ?_
 refine Nt ?_
 refine WC.ret ?_
 refine WQ.thenR ?_
 refine WQ.drop ?_
 refine WQ.drop ?_
 refine WQ.drop ?_
 exact WQ.returnsF h [] rfl (results1 rfl rfl) (hle25.trans hle41) ⟨rfl, rfl⟩
 have h := ite_f hb37 h
 refine WC.skip ?_
 refine WQ.thenC ?_
 obtain ⟨x43, hj44, h⟩ := bnd h
 refine WC.joinF (fun (x43 : Bool) ρ' M' H' => M25.le M' ∧ [(g23, .cells (l72 a2).toArray 72 (0, 0))] :: [(g22, .cells (l68 a1 v1_10).toArray 68 (0, 0))] :: [(g21, .cells (l68 a0 v0_10).toArray 68 (0, 0))] :: F = H' ∧ ρ' 6 = (.bool x43)) x43 ?_ ?_
 have h344 := h
 have h := hj44
 refine WC.draw [0, 1, 0, 7, 15, 31, 63, 127, 63, 511, 1023, 2047, 4095, 8191, 8191, 32767, 8191, 8191, 262143, 524287, 1048575, 2097151, 4194303, 8388607, 16777215] (.pure 0 (.pure 2 (.alt 1 (.alt 3 (.alt 4 (.pure 5 (.pure 6 (.pure 8 (.alt 7 (.alt 9 (.alt 10 (.pure 11 (.pure 12 (.pure 13 (.pure 14 (.pure 16 (.pure 17 (.alt 15 (.alt 18 (.pure 19 (.pure 20 (.pure 21 (.alt 22 (.pure 23 (.pure 24 .done)) .none)))) .none) .none))))))) .none) .none) .none)))) .none) .none) .none))) mixed (by kernel_rfl) ?_
 refine Tp (a68_ a0 v0_10) rfl (PO.loadBA (cs := (l68 a0 v0_10)) 2 ag68 sz68 hs25_3 rfl rfl) rfl ?_
 refine Tp (a68_ a0 v0_10) rfl (PO.loadBA (cs := (l68 a0 v0_10)) 2 ag68 sz68 hs25_3 rfl rfl) rfl ?_
 obtain ⟨r45, hr46, h⟩ := bnd h
 refine WT.alt rfl (EO.call0 co30 (f_ask_Check_ok a0 _ _ h0_10 r45 hr46) (args1 rfl)) rfl ?_ ?_
 rintro _ M47 _ hle48 ⟨_, ⟨rfl, rfl⟩, rfl⟩
 have h0_10 := h0_10.mono hle48
 have h1_10 := h1_10.mono hle48
 have hE := hE.mono hle48
 refine ⟨(StabL.st (StabA.of rfl (PO.loadBA (cs := (l68 a0 v0_10)) 2 ag68 sz68 hs25_3 rfl rfl) rfl) (StabL.anc rfl trivial)), ?_⟩
 refine WT.a0 ?_
 obtain ⟨r50, hr51, h⟩ := bnd h
 refine WT.alt rfl (EO.call0 co31 (f_ref22_Check_ok a0 _ _ h0_10 r50 hr51) (args1 rfl)) rfl ?_ ?_
 rintro _ M52 _ hle53 ⟨_, ⟨rfl, rfl⟩, rfl⟩
 have h0_10 := h0_10.mono hle53
 have h1_10 := h1_10.mono hle53
 have hE := hE.mono hle53
 refine ⟨(StabL.anc rfl (StabL.anc rfl trivial)), ?_⟩
 refine WT.a0 ?_
 obtain ⟨r55, hr56, h⟩ := bnd h
 refine WT.alt rfl (EO.call0 co29 (f_law22_wrong_ok r45 r50 _ hE r55 hr56) (args2 rfl rfl)) rfl ?_ ?_
 rintro _ M57 _ hle58 ⟨_, ⟨rfl, rfl⟩, rfl⟩
 have h0_10 := h0_10.mono hle58
 have h1_10 := h1_10.mono hle58
 have hE := hE.mono hle58
 refine ⟨(StabL.anc rfl (StabL.anc rfl trivial)), ?_⟩
 refine WT.a0 ?_
 refine Tp (.bool r55) rfl (PO.move rfl) rfl ?_
 rcases Bool.eq_false_or_eq_true (r55) with hb60 | hb60
 have h := ite_t hb60 h
 refine Tn (a72_ a2) 21 rfl rfl rfl hb60 (PO.loadBA (cs := (l72 a2)) 0 ag72 sz72 hs25_5 rfl rfl) rfl ?_
 refine Tn (a72_ a2) 21 rfl rfl rfl hb60 (PO.loadBA (cs := (l72 a2)) 0 ag72 sz72 hs25_5 rfl rfl) rfl ?_
 obtain ⟨r61, hr62, h⟩ := bnd h
 refine WT.altOn 21 rfl rfl rfl hb60 (EO.call0 co32 (f_ask_CheckReply_ok a2 _ r61 hr62) (args1 rfl)) rfl ?_ ?_
 rintro _ M63 _ hle64 ⟨_, ⟨rfl, rfl⟩, rfl⟩
 have h0_10 := h0_10.mono hle64
 have h1_10 := h1_10.mono hle64
 have hE := hE.mono hle64
 refine ⟨(StabL.st (StabA.on 21 rfl rfl rfl hb60 (PO.loadBA (cs := (l72 a2)) 0 ag72 sz72 hs25_5 rfl rfl) rfl) (StabL.anc rfl (StabL.anc rfl (StabL.anc rfl (StabL.anc rfl trivial))))), ?_⟩
 refine WT.a0 ?_
 obtain ⟨r66, hr67, h⟩ := bnd h
 refine WT.altOn 21 rfl rfl rfl hb60 (EO.call0 co33 (f_ref22_CheckReply_ok a2 _ r66 hr67) (args1 rfl)) rfl ?_ ?_
 rintro _ M68 _ hle69 ⟨_, ⟨rfl, rfl⟩, rfl⟩
 have h0_10 := h0_10.mono hle69
 have h1_10 := h1_10.mono hle69
 have hE := hE.mono hle69
 refine ⟨(StabL.anc rfl (StabL.anc rfl (StabL.anc rfl (StabL.anc rfl (StabL.anc rfl trivial))))), ?_⟩
 refine WT.a0 ?_
 obtain ⟨r71, hr72, h⟩ := bnd h
 refine WT.altOn 21 rfl rfl rfl hb60 (EO.call0 co29 (f_law22_wrong_ok r61 r66 _ hE r71 hr72) (args2 rfl rfl)) rfl ?_ ?_
 rintro _ M73 _ hle74 ⟨_, ⟨rfl, rfl⟩, rfl⟩
 have h0_10 := h0_10.mono hle74
 have h1_10 := h1_10.mono hle74
 have hE := hE.mono hle74
 refine ⟨(StabL.anc rfl (StabL.anc rfl (StabL.anc rfl (StabL.anc rfl (StabL.anc rfl trivial))))), ?_⟩
 refine WT.a0 ?_
 refine Tp (.bool r71) rfl (PO.pickT rfl hb60 rfl) rfl ?_
 refine Tp (.bool r71) rfl (PO.move rfl) rfl ?_
 rcases Bool.eq_false_or_eq_true (r71) with hb76 | hb76
 have h := ite_t hb76 h
 refine Tn (a68_ a1 v1_10) 28 rfl rfl rfl hb76 (PO.loadBA (cs := (l68 a1 v1_10)) 1 ag68 sz68 hs25_4 rfl rfl) rfl ?_
 refine Tn (a68_ a0 v0_10) 28 rfl rfl rfl hb76 (PO.loadBA (cs := (l68 a0 v0_10)) 2 ag68 sz68 hs25_3 rfl rfl) rfl ?_
 refine Tn (a68_ a1 v1_10) 28 rfl rfl rfl hb76 (PO.loadBA (cs := (l68 a1 v1_10)) 1 ag68 sz68 hs25_4 rfl rfl) rfl ?_
 refine Tn (a68_ a0 v0_10) 28 rfl rfl rfl hb76 (PO.loadBA (cs := (l68 a0 v0_10)) 2 ag68 sz68 hs25_3 rfl rfl) rfl ?_
 obtain ⟨r77, hr78, h⟩ := bnd h
 refine WT.altOn 28 rfl rfl rfl hb76 (EO.call0 co34 (f_ask_Same_ok a1 a0 _ _ _ h1_10 h0_10 r77 hr78) (args2 rfl rfl)) rfl ?_ ?_
 rintro _ M79 _ hle80 ⟨_, ⟨rfl, rfl⟩, rfl⟩
 have h0_10 := h0_10.mono hle80
 have h1_10 := h1_10.mono hle80
 have hE := hE.mono hle80
 refine ⟨(StabL.st (StabA.on 28 rfl rfl rfl hb76 (PO.loadBA (cs := (l68 a0 v0_10)) 2 ag68 sz68 hs25_3 rfl rfl) rfl) (StabL.st (StabA.on 28 rfl rfl rfl hb76 (PO.loadBA (cs := (l68 a1 v1_10)) 1 ag68 sz68 hs25_4 rfl rfl) rfl) (StabL.anc rfl (StabL.anc rfl (StabL.anc rfl (StabL.anc rfl (StabL.anc rfl (StabL.anc rfl (StabL.anc rfl (StabL.anc rfl (StabL.anc rfl trivial))))))))))), ?_⟩
 refine WT.a0 ?_
 obtain ⟨r82, hr83, h⟩ := bnd h
 refine WT.altOn 28 rfl rfl rfl hb76 (EO.call0 co35 (f_ref22_Same_ok a1 a0 _ _ _ h1_10 h0_10 r82 hr83) (args2 rfl rfl)) rfl ?_ ?_
 rintro _ M84 _ hle85 ⟨_, ⟨rfl, rfl⟩, rfl⟩
 have h0_10 := h0_10.mono hle85
 have h1_10 := h1_10.mono hle85
 have hE := hE.mono hle85
 refine ⟨(StabL.anc rfl (StabL.anc rfl (StabL.anc rfl (StabL.anc rfl (StabL.anc rfl (StabL.anc rfl (StabL.anc rfl (StabL.anc rfl (StabL.anc rfl (StabL.anc rfl (StabL.anc rfl trivial))))))))))), ?_⟩
 refine WT.a0 ?_
 refine Tn (.bool (r77 == r82)) 28 rfl rfl rfl hb76 (PO.beql Tryd.underlying4 rfl rfl) rfl ?_
 refine Tp (.bool (r77 == r82)) rfl (PO.pickT rfl hb76 rfl) rfl ?_
 refine Tp (.bool (r77 == r82)) rfl (PO.move rfl) rfl ?_
 rcases Bool.eq_false_or_eq_true (r77 == r82) with hb87 | hb87
 have h := ite_t hb87 h
 obtain ⟨r88, hr89, h⟩ := bnd h
 refine WT.altOn 37 rfl rfl rfl hb87 (EO.call0 co28 (f_law22_works_ok _ r88 hr89) (args0)) rfl ?_ ?_
 rintro _ M90 _ hle91 ⟨_, ⟨rfl, rfl⟩, rfl⟩
 have h0_10 := h0_10.mono hle91
 have h1_10 := h1_10.mono hle91
 have hE := hE.mono hle91
 refine ⟨(StabL.anc rfl (StabL.anc rfl (StabL.anc rfl (StabL.anc rfl (StabL.anc rfl (StabL.anc rfl (StabL.anc rfl (StabL.anc rfl (StabL.anc rfl (StabL.anc rfl (StabL.anc rfl (StabL.anc rfl (StabL.anc rfl (StabL.anc rfl trivial)))))))))))))), ?_⟩
 refine WT.a0 ?_
 refine Tp (.bool r88) rfl (PO.pickT rfl hb87 rfl) rfl ?_
 refine Tp (.bool r88) rfl (PO.assign rfl) rfl ?_
 refine WT.fin ?_
 obtain rfl := Option.some.inj h
 refine WQ.thenJ ?_
 exact ⟨((((((((hle48.trans hle53).trans hle58).trans hle64).trans hle69).trans hle74).trans hle80).trans hle85).trans hle91), rfl, rfl⟩
 exact WT.no
 have h := ite_f hb87 h
 refine WT.altOff 37 rfl rfl rfl hb87 rfl ⟨(StabL.anc rfl (StabL.anc rfl (StabL.anc rfl (StabL.anc rfl (StabL.anc rfl (StabL.anc rfl (StabL.anc rfl (StabL.anc rfl (StabL.anc rfl (StabL.anc rfl (StabL.anc rfl (StabL.anc rfl (StabL.anc rfl (StabL.anc rfl trivial)))))))))))))), ?_⟩ ?_
 refine Tp (.bool false) rfl (PO.pickF rfl hb87 rfl) rfl ?_
 refine Tp (.bool false) rfl (PO.assign rfl) rfl ?_
 refine WT.fin ?_
 obtain rfl := Option.some.inj h
 refine WQ.thenJ ?_
 exact ⟨(((((((hle48.trans hle53).trans hle58).trans hle64).trans hle69).trans hle74).trans hle80).trans hle85), rfl, rfl⟩
 exact WT.no
 exact WT.no
 exact WT.no
 have h := ite_f hb76 h
 refine WT.pureOff 28 rfl rfl rfl hb76 rfl ?_
 refine WT.pureOff 28 rfl rfl rfl hb76 rfl ?_
 refine WT.pureOff 28 rfl rfl rfl hb76 rfl ?_
 refine WT.pureOff 28 rfl rfl rfl hb76 rfl ?_
 refine WT.altOff 28 rfl rfl rfl hb76 rfl ⟨(StabL.st (StabA.off 28 rfl rfl rfl hb76 rfl) (StabL.st (StabA.off 28 rfl rfl rfl hb76 rfl) (StabL.anc rfl (StabL.anc rfl (StabL.anc rfl (StabL.anc rfl (StabL.anc rfl (StabL.anc rfl (StabL.anc rfl (StabL.anc rfl (StabL.anc rfl trivial))))))))))), ?_⟩ ?_
 refine WT.altOff 28 rfl rfl rfl hb76 rfl ⟨(StabL.anc rfl (StabL.anc rfl (StabL.anc rfl (StabL.anc rfl (StabL.anc rfl (StabL.anc rfl (StabL.anc rfl (StabL.anc rfl (StabL.anc rfl (StabL.anc rfl (StabL.anc rfl trivial))))))))))), ?_⟩ ?_
 refine WT.pureOff 28 rfl rfl rfl hb76 rfl ?_
 refine Tp (.bool false) rfl (PO.pickF rfl hb76 rfl) rfl ?_
 refine Tp (.bool false) rfl (PO.move rfl) rfl ?_
 refine WT.altOff 37 rfl rfl rfl rfl rfl ⟨(StabL.anc rfl (StabL.anc rfl (StabL.anc rfl (StabL.anc rfl (StabL.anc rfl (StabL.anc rfl (StabL.anc rfl (StabL.anc rfl (StabL.anc rfl (StabL.anc rfl (StabL.anc rfl (StabL.anc rfl (StabL.anc rfl (StabL.anc rfl trivial)))))))))))))), ?_⟩ ?_
 refine Tp (.bool false) rfl (PO.pickF rfl rfl rfl) rfl ?_
 refine Tp (.bool false) rfl (PO.assign rfl) rfl ?_
 refine WT.fin ?_
 obtain rfl := Option.some.inj h
 refine WQ.thenJ ?_
 exact ⟨(((((hle48.trans hle53).trans hle58).trans hle64).trans hle69).trans hle74), rfl, rfl⟩
 exact WT.no
 exact WT.no
 exact WT.no
 exact WT.no
 exact WT.no
 exact WT.no
 have h := ite_f hb60 h
 refine WT.pureOff 21 rfl rfl rfl hb60 rfl ?_
 refine WT.pureOff 21 rfl rfl rfl hb60 rfl ?_
 refine WT.altOff 21 rfl rfl rfl hb60 rfl ⟨(StabL.st (StabA.off 21 rfl rfl rfl hb60 rfl) (StabL.anc rfl (StabL.anc rfl (StabL.anc rfl (StabL.anc rfl trivial))))), ?_⟩ ?_
 refine WT.altOff 21 rfl rfl rfl hb60 rfl ⟨(StabL.anc rfl (StabL.anc rfl (StabL.anc rfl (StabL.anc rfl (StabL.anc rfl trivial))))), ?_⟩ ?_
 refine WT.altOff 21 rfl rfl rfl hb60 rfl ⟨(StabL.anc rfl (StabL.anc rfl (StabL.anc rfl (StabL.anc rfl (StabL.anc rfl trivial))))), ?_⟩ ?_
 refine Tp (.bool false) rfl (PO.pickF rfl hb60 rfl) rfl ?_
 refine Tp (.bool false) rfl (PO.move rfl) rfl ?_
 refine WT.pureOff 28 rfl rfl rfl rfl rfl ?_
 refine WT.pureOff 28 rfl rfl rfl rfl rfl ?_
 refine WT.pureOff 28 rfl rfl rfl rfl rfl ?_
 refine WT.pureOff 28 rfl rfl rfl rfl rfl ?_
 refine WT.altOff 28 rfl rfl rfl rfl rfl ⟨(StabL.st (StabA.off 28 rfl rfl rfl rfl rfl) (StabL.st (StabA.off 28 rfl rfl rfl rfl rfl) (StabL.anc rfl (StabL.anc rfl (StabL.anc rfl (StabL.anc rfl (StabL.anc rfl (StabL.anc rfl (StabL.anc rfl (StabL.anc rfl (StabL.anc rfl trivial))))))))))), ?_⟩ ?_
 refine WT.altOff 28 rfl rfl rfl rfl rfl ⟨(StabL.anc rfl (StabL.anc rfl (StabL.anc rfl (StabL.anc rfl (StabL.anc rfl (StabL.anc rfl (StabL.anc rfl (StabL.anc rfl (StabL.anc rfl (StabL.anc rfl (StabL.anc rfl trivial))))))))))), ?_⟩ ?_
 refine WT.pureOff 28 rfl rfl rfl rfl rfl ?_
 refine Tp (.bool false) rfl (PO.pickF rfl rfl rfl) rfl ?_
 refine Tp (.bool false) rfl (PO.move rfl) rfl ?_
 refine WT.altOff 37 rfl rfl rfl rfl rfl ⟨(StabL.anc rfl (StabL.anc rfl (StabL.anc rfl (StabL.anc rfl (StabL.anc rfl (StabL.anc rfl (StabL.anc rfl (StabL.anc rfl (StabL.anc rfl (StabL.anc rfl (StabL.anc rfl (StabL.anc rfl (StabL.anc rfl (StabL.anc rfl trivial)))))))))))))), ?_⟩ ?_
 refine Tp (.bool false) rfl (PO.pickF rfl rfl rfl) rfl ?_
 refine Tp (.bool false) rfl (PO.assign rfl) rfl ?_
 refine WT.fin ?_
 obtain rfl := Option.some.inj h
 refine WQ.thenJ ?_
 exact ⟨((hle48.trans hle53).trans hle58), rfl, rfl⟩
 exact WT.no
 exact WT.no
 exact WT.no
 exact WT.no
 exact WT.no
 exact WT.no
 exact WT.no
 exact WT.no
 exact WT.no
 rintro ρ44 M44 H44 ⟨hle44, rfl, hs44_6⟩
 have h1_10 := h1_10.mono hle44
 have h0_10 := h0_10.mono hle44
 have hE := hE.mono hle44
 refine WC.ret ?_
 refine WQ.drop ?_
 refine WQ.drop ?_
 refine WQ.drop ?_
 exact WQ.returnsF h [] rfl (results1 rfl hs44_6) (hle25.trans hle44) ⟨rfl, rfl⟩

noncomputable def f_ref02_size (a0 : Int) : Option Int :=
  (if (decide (a0 < (64 : Int))) = true then (some (1 : Int)) else (if (decide (a0 < (16384 : Int))) = true then (some (2 : Int)) else (if (decide (a0 < (1073741824 : Int))) = true then (some (4 : Int)) else (some (8 : Int)))))
def f_ref02_size_post (a0 : Int) : Int → Value → IM → HL → Prop :=
  fun (r0 : Int) (v : Value) (M' : IM) (H' : HL) => (.int .i64 r0) = v ∧ H' = []
set_option maxHeartbeats 8000000 in
set_option maxRecDepth 100000 in
theorem f_ref02_size_ok (a0 : Int) (M : IM) (res : Int) (h : f_ref02_size a0 = some res) :
    Tri Tryd.prog 111 #[(.int .u64 a0)] M [] (f_ref02_size_post a0 res) := by
 unfold f_ref02_size at h
 refine Tri.enter (fn := Tryd.f111) Tryd.func111 rfl (Nat.le_of_ble_eq_true rfl) ?_
 intro F ρ hρ
 refine Sr ?_
 refine Pa (.int .i64 0) rfl rfl ?_
 refine Nt ?_
 refine WC.seq ?_
 refine Sr ?_
 refine Pm (.int .u64 a0) (hρ 0) rfl ?_
 refine Pu (.bool (decide (a0 < (64 : Int)))) (PO.lss rfl rfl) rfl ?_
 refine Nt ?_
 refine WC.cond (b := decide (a0 < (64 : Int))) rfl (fun hb21 => ?_) (fun hb21 => ?_)
 have h := ite_t hb21 h
 refine Sr ?_
 refine Pa (.int .i64 1) rfl rfl ?_
 refine Nt ?_
 refine WC.ret ?_
 refine WQ.thenR ?_
 exact WQ.returnsF h [] rfl (results1 rfl rfl) (IM.le.refl _) ⟨rfl, rfl⟩
 have h := ite_f hb21 h
 refine WC.skip ?_
 refine WQ.thenC ?_
 refine WC.seq ?_
 refine Sr ?_
 refine Pm (.int .u64 a0) (hρ 0) rfl ?_
 refine Pu (.bool (decide (a0 < (16384 : Int)))) (PO.lss rfl rfl) rfl ?_
 refine Nt ?_
 refine WC.cond (b := decide (a0 < (16384 : Int))) rfl (fun hb22 => ?_) (fun hb22 => ?_)
 have h := ite_t hb22 h
 refine Sr ?_
 refine Pa (.int .i64 2) rfl rfl ?_
 refine Nt ?_
 refine WC.ret ?_
 refine WQ.thenR ?_
 exact WQ.returnsF h [] rfl (results1 rfl rfl) (IM.le.refl _) ⟨rfl, rfl⟩
 have h := ite_f hb22 h
 refine WC.skip ?_
 refine WQ.thenC ?_
 refine WC.seq ?_
 refine Sr ?_
 refine Pm (.int .u64 a0) (hρ 0) rfl ?_
 refine Pu (.bool (decide (a0 < (1073741824 : Int)))) (PO.lss rfl rfl) rfl ?_
 refine Nt ?_
 refine WC.cond (b := decide (a0 < (1073741824 : Int))) rfl (fun hb23 => ?_) (fun hb23 => ?_)
 have h := ite_t hb23 h
 refine Sr ?_
 refine Pa (.int .i64 4) rfl rfl ?_
 refine Nt ?_
 refine WC.ret ?_
 refine WQ.thenR ?_
 exact WQ.returnsF h [] rfl (results1 rfl rfl) (IM.le.refl _) ⟨rfl, rfl⟩
 have h := ite_f hb23 h
 refine WC.skip ?_
 refine WQ.thenC ?_
 refine Sr ?_
 refine Pa (.int .i64 8) rfl rfl ?_
 refine Nt ?_
 refine WC.ret ?_
 exact WQ.returnsF h [] rfl (results1 rfl rfl) (IM.le.refl _) ⟨rfl, rfl⟩


end Go.Proofs.YtjgnbbakamellaaDoor.G
