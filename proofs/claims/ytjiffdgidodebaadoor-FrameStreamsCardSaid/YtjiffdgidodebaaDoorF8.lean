/- Go functions: what they come to, and that they do. Printed by a program of the session (gen). -/
import Derived.Test.YtjiffdgidodebaaDoorFF
import Derived.Test.YtjiffdgidodebaaDoorF7
import Derived.Test.YtjiffdgidodebaaDoorKShar
set_option linter.unusedVariables false
set_option linter.unusedSimpArgs false
set_option maxHeartbeats 8000000
set_option maxRecDepth 100000
namespace Go.Proofs.YtjiffdgidodebaaDoor.G
open Go Go.KK

noncomputable def f_ref04_Next (a0 : (List Int)) : Option T_ref04_Found :=
  (((if (decide ((0 : Int) < (a0.length : Int))) = true then (grd (0 ≤ (0 : Int) ∧ (0 : Int) < a0.length) (some (decide ((rd a0 (0 : Int)) ≠ (197 : Int))))) else (some false)) : Option Bool).bind fun (x22 : Bool) => (if x22 = true then (some (⟨(⟨(0 : Int), []⟩ : T_api_Frame), (0 : Int), (5 : Int), (⟨#[115, 105, 103, 110]⟩ : ByteArray), (0 : Int)⟩ : T_ref04_Found)) else (((if (decide ((1 : Int) < (a0.length : Int))) = true then (grd (0 ≤ (1 : Int) ∧ (1 : Int) < a0.length) (some (decide ((63 : Int) < (rd a0 (1 : Int)))))) else (some false)) : Option Bool).bind fun (x33 : Bool) => (if x33 = true then (some (⟨(⟨(0 : Int), []⟩ : T_api_Frame), (0 : Int), (5 : Int), (⟨#[107, 105, 110, 100]⟩ : ByteArray), (1 : Int)⟩ : T_ref04_Found)) else (if (decide ((a0.length : Int) < (3 : Int))) = true then (some (⟨(⟨(0 : Int), []⟩ : T_api_Frame), (0 : Int), (0 : Int), (⟨#[]⟩ : ByteArray), (0 : Int)⟩ : T_ref04_Found)) else (grd (0 ≤ (2 : Int) ∧ (2 : Int) ≤ (a0.length : Int) ∧ (a0.length : Int) ≤ (a0.length : Int)) ((f_ref02_Read (sub a0 (2 : Int) (a0.length : Int)) (⟨(0 : Int), (0 : Int), (⟨#[]⟩ : ByteArray), (0 : Int)⟩ : T_ref02_State) (⟨(1 : Int), (16384 : Int), (0 : Int)⟩ : T_ref02_Ask)).bind fun (r47, r48) => (if (decide (r47.Code = (3 : Int))) = true then (some (⟨(⟨(0 : Int), []⟩ : T_api_Frame), (0 : Int), (0 : Int), (⟨#[]⟩ : ByteArray), (0 : Int)⟩ : T_ref04_Found)) else (if (decide (r47.Code ≠ (0 : Int))) = true then (some (⟨(⟨(0 : Int), []⟩ : T_api_Frame), (0 : Int), r47.Code, (⟨#[108, 101, 110, 103, 116, 104]⟩ : ByteArray), (2 : Int)⟩ : T_ref04_Found)) else (if (decide ((a0.length : Int) < (IntKind.i64.wrap ((IntKind.i64.wrap ((IntKind.i64.wrap ((2 : Int) + r47.At)) + (IntKind.i64.wrap r48.Num))) + (4 : Int))))) = true then (some (⟨(⟨(0 : Int), []⟩ : T_api_Frame), (0 : Int), (0 : Int), (⟨#[]⟩ : ByteArray), (0 : Int)⟩ : T_ref04_Found)) else (grd (0 ≤ (0 : Int) ∧ (0 : Int) ≤ IntKind.i64.wrap ((IntKind.i64.wrap ((2 : Int) + r47.At)) + (IntKind.i64.wrap r48.Num)) ∧ IntKind.i64.wrap ((IntKind.i64.wrap ((2 : Int) + r47.At)) + (IntKind.i64.wrap r48.Num)) ≤ (a0.length : Int)) (grd (0 ≤ (0 : Int) ∧ (0 : Int) ≤ IntKind.i64.wrap ((IntKind.i64.wrap ((IntKind.i64.wrap ((2 : Int) + r47.At)) + (IntKind.i64.wrap r48.Num))) + (4 : Int)) ∧ IntKind.i64.wrap ((IntKind.i64.wrap ((IntKind.i64.wrap ((2 : Int) + r47.At)) + (IntKind.i64.wrap r48.Num))) + (4 : Int)) ≤ (a0.length : Int)) ((f_ref03_Put (sub a0 (0 : Int) (IntKind.i64.wrap ((IntKind.i64.wrap ((2 : Int) + r47.At)) + (IntKind.i64.wrap r48.Num))))).bind fun (r63 : (List Int)) => ((f_ref02_Same r63 (sub a0 (0 : Int) (IntKind.i64.wrap ((IntKind.i64.wrap ((IntKind.i64.wrap ((2 : Int) + r47.At)) + (IntKind.i64.wrap r48.Num))) + (4 : Int))))).bind fun (r68 : Bool) => (if (!r68) = true then (some (⟨(⟨(0 : Int), []⟩ : T_api_Frame), (0 : Int), (4 : Int), (⟨#[115, 117, 109]⟩ : ByteArray), IntKind.i64.wrap ((IntKind.i64.wrap ((2 : Int) + r47.At)) + (IntKind.i64.wrap r48.Num))⟩ : T_ref04_Found)) else (grd (0 ≤ (1 : Int) ∧ (1 : Int) < a0.length) (grd (0 ≤ IntKind.i64.wrap ((2 : Int) + r47.At) ∧ IntKind.i64.wrap ((2 : Int) + r47.At) ≤ IntKind.i64.wrap ((IntKind.i64.wrap ((2 : Int) + r47.At)) + (IntKind.i64.wrap r48.Num)) ∧ IntKind.i64.wrap ((IntKind.i64.wrap ((2 : Int) + r47.At)) + (IntKind.i64.wrap r48.Num)) ≤ (a0.length : Int)) (some (⟨(⟨IntKind.i64.wrap (rd a0 (1 : Int)), sub a0 (IntKind.i64.wrap ((2 : Int) + r47.At)) (IntKind.i64.wrap ((IntKind.i64.wrap ((2 : Int) + r47.At)) + (IntKind.i64.wrap r48.Num)))⟩ : T_api_Frame), IntKind.i64.wrap ((IntKind.i64.wrap ((IntKind.i64.wrap ((2 : Int) + r47.At)) + (IntKind.i64.wrap r48.Num))) + (4 : Int)), (0 : Int), (⟨#[]⟩ : ByteArray), (0 : Int)⟩ : T_ref04_Found)))))))))))))))))))
def f_ref04_Next_post (a0 : (List Int)) (v0 : Value) : T_ref04_Found → Value → IM → HL → Prop :=
  fun (r0 : T_ref04_Found) (v : Value) (M' : IM) (H' : HL) => ∃ vz0_0_1, (.agg #[(.int .i64 r0.F.Kind), vz0_0_1, (.int .i64 r0.Size), (.int .i64 r0.Code), (.string r0.Op), (.int .i64 r0.At)]) = v ∧ H' = [] ∧ RS (Kd.int .u8) M' vz0_0_1 r0.F.Body
theorem f_ref04_Next_ok (a0 : (List Int)) (M : IM) (v0 : Value) (h0 : RS (Kd.int .u8) M v0 a0) (res : T_ref04_Found) (h : f_ref04_Next a0 = some res) :
    Tri Tryd.prog 23 #[v0] M [] (f_ref04_Next_post a0 v0 res) := by
 unfold f_ref04_Next at h
 refine Tri.enter (fn := Tryd.f23) Tryd.func23 rfl (Nat.le_of_ble_eq_true rfl) ?_
 intro F ρ hρ
 refine Sr ?_
 refine WL.eff (EO.alloc ze55 rfl) rfl ?_
 rintro _ _ _ - ⟨rfl, g21, rfl, rfl⟩
 refine Nt ?_
 refine WC.seq ?_
 obtain ⟨x22, hj23, h⟩ := bnd h
 refine WC.joinF (fun (x22 : Bool) ρ' M' H' => M.le M' ∧ [(g21, .cells z55_.toArray 55 (0, 0))] :: F = H' ∧ ρ' 0 = v0 ∧ ρ' 2 = (pt g21 0) ∧ ρ' 15 = (.bool x22)) x22 ?_ ?_
 have h323 := h
 have h := hj23
 refine WC.region ?_
 refine Pm v0 (hρ 0) rfl ?_
 refine Pu (.int .i64 (a0.length : Int)) (PO.lenS Tryd.underlying26 rfl h0.len) rfl ?_
 refine Pu (.bool (decide ((0 : Int) < (a0.length : Int)))) (PO.gtr rfl rfl) rfl ?_
 refine Pm (.bool (decide ((0 : Int) < (a0.length : Int)))) rfl rfl ?_
 rcases Bool.eq_false_or_eq_true (decide ((0 : Int) < (a0.length : Int))) with hb24 | hb24
 have h := ite_t hb24 h
 refine On 10 rfl rfl hb24 ?_
 refine Pm v0 (hρ 0) rfl ?_
 refine On 10 rfl rfl hb24 ?_
 obtain ⟨hg25, h⟩ := grd_i h
 obtain ⟨p26, cs27, hat28, hrc29, hhas30⟩ := h0.at hg25.1 hg25.2 (by decide)
 obtain rfl := hrc29
 refine Pu (.pointer (some p26)) (PO.indexAddr (n := a0.length) Tryd.underlying26 sz5 rfl rfl hg25.1 hg25.2 hat28) rfl ?_
 refine On 10 rfl rfl hb24 ?_
 refine Pu (.int .u8 (rd a0 (0 : Int))) (PO.loadM pl5 rfl (IM.has0 hhas30)) rfl ?_
 refine On 10 rfl rfl hb24 ?_
 refine Pu (.bool (decide ((rd a0 (0 : Int)) ≠ 197))) (PO.neq rfl rfl) rfl ?_
 refine Pu (.bool (decide ((rd a0 (0 : Int)) ≠ 197))) (PO.pickT rfl hb24 rfl) rfl ?_
 refine WL.nil ?_
 obtain rfl := Option.some.inj h
 refine WQ.thenJ ?_
 exact ⟨(IM.le.refl _), rfl, (hρ 0), rfl, rfl⟩
 have h := ite_f hb24 h
 iterate 4 refine Of 10 rfl rfl hb24 rfl ?_
 refine Pu (.bool false) (PO.pickF rfl hb24 rfl) rfl ?_
 refine WL.nil ?_
 obtain rfl := Option.some.inj h
 refine WQ.thenJ ?_
 exact ⟨(IM.le.refl _), rfl, (hρ 0), rfl, rfl⟩
 rintro ρ23 M23 H23 ⟨hle23, rfl, hs23_0, hs23_2, hs23_15⟩
 have h0 := h0.mono hle23
 refine WC.cond (b := x22) hs23_15 (fun hb32 => ?_) (fun hb32 => ?_)
 have h := ite_t hb32 h
 refine Sr ?_
 refine Pu (.agg #[(.int .i64 0), (.slice none 0 0), (.int .i64 0), (.int .i64 5), (.string ⟨#[115, 105, 103, 110]⟩), (.int .i64 0)]) (PO.buildL (cl := [(.int .i64 0), (.slice none 0 0), (.int .i64 0), (.int .i64 5), (.string ⟨#[115, 105, 103, 110]⟩), (.int .i64 0)]) ze55 fp55 (Parts.cons (congrArg Value.cells (show ev _ _ = (.int .i64 5) from rfl)) (Parts.cons (congrArg Value.cells (show ev _ _ = (.string ⟨#[115, 105, 103, 110]⟩) from rfl)) (Parts.cons (congrArg Value.cells (show ev _ _ = (.int .i64 0) from rfl)) Parts.nil))) rfl) rfl ?_
 refine WL.eff (EO.storeL (v := (.agg #[(.int .i64 0), (.slice none 0 0), (.int .i64 0), (.int .i64 5), (.string ⟨#[115, 105, 103, 110]⟩), (.int .i64 0)])) (vl := [(.int .i64 0), (.slice none 0 0), (.int .i64 0), (.int .i64 5), (.string ⟨#[115, 105, 103, 110]⟩), (.int .i64 0)]) (arr' := [(.int .i64 0), (.slice none 0 0), (.int .i64 0), (.int .i64 5), (.string ⟨#[115, 105, 103, 110]⟩), (.int .i64 0)]) rfl sz55 hs23_2 rfl (onesOf (Ones.cons rfl (Ones.cons rfl (Ones.cons rfl (Ones.cons rfl (Ones.cons rfl (Ones.cons rfl Ones.nil))))))) rfl rfl rfl) rfl ?_
 rintro _ _ _ - ⟨rfl, rfl⟩
 refine Nt ?_
 refine WC.ret ?_
 refine WQ.thenR ?_
 exact WQ.returnsD h [] (fun _ hs => hs.drop) (resultsL1 rfl (RV.cellA (cs := [(.int .i64 0), (.slice none 0 0), (.int .i64 0), (.int .i64 5), (.string ⟨#[115, 105, 103, 110]⟩), (.int .i64 0)]) 0 ag55 sz55 hs23_2 rfl rfl)) hle23 ⟨(.slice none 0 0), rfl, rfl, RS.nil _ _⟩
 have h := ite_f hb32 h
 refine WC.skip ?_
 refine WQ.thenC ?_
 refine WC.seq ?_
 obtain ⟨x33, hj34, h⟩ := bnd h
 refine WC.joinF (fun (x33 : Bool) ρ' M' H' => M23.le M' ∧ [(g21, .cells z55_.toArray 55 (0, 0))] :: F = H' ∧ ρ' 0 = v0 ∧ ρ' 2 = (pt g21 0) ∧ ρ' 25 = (.bool x33)) x33 ?_ ?_
 have h334 := h
 have h := hj34
 refine WC.region ?_
 refine Pm v0 hs23_0 rfl ?_
 refine Pu (.int .i64 (a0.length : Int)) (PO.lenS Tryd.underlying26 rfl h0.len) rfl ?_
 refine Pu (.bool (decide ((1 : Int) < (a0.length : Int)))) (PO.gtr rfl rfl) rfl ?_
 refine Pm (.bool (decide ((1 : Int) < (a0.length : Int)))) rfl rfl ?_
 rcases Bool.eq_false_or_eq_true (decide ((1 : Int) < (a0.length : Int))) with hb35 | hb35
 have h := ite_t hb35 h
 refine On 20 rfl rfl hb35 ?_
 refine Pm v0 hs23_0 rfl ?_
 refine On 20 rfl rfl hb35 ?_
 obtain ⟨hg36, h⟩ := grd_i h
 obtain ⟨p37, cs38, hat39, hrc40, hhas41⟩ := h0.at hg36.1 hg36.2 (by decide)
 obtain rfl := hrc40
 refine Pu (.pointer (some p37)) (PO.indexAddr (n := a0.length) Tryd.underlying26 sz5 rfl rfl hg36.1 hg36.2 hat39) rfl ?_
 refine On 20 rfl rfl hb35 ?_
 refine Pu (.int .u8 (rd a0 (1 : Int))) (PO.loadM pl5 rfl (IM.has0 hhas41)) rfl ?_
 refine On 20 rfl rfl hb35 ?_
 refine Pu (.bool (decide ((63 : Int) < (rd a0 (1 : Int))))) (PO.gtr rfl rfl) rfl ?_
 refine Pu (.bool (decide ((63 : Int) < (rd a0 (1 : Int))))) (PO.pickT rfl hb35 rfl) rfl ?_
 refine WL.nil ?_
 obtain rfl := Option.some.inj h
 refine WQ.thenJ ?_
 exact ⟨(IM.le.refl _), rfl, hs23_0, hs23_2, rfl⟩
 have h := ite_f hb35 h
 iterate 4 refine Of 20 rfl rfl hb35 rfl ?_
 refine Pu (.bool false) (PO.pickF rfl hb35 rfl) rfl ?_
 refine WL.nil ?_
 obtain rfl := Option.some.inj h
 refine WQ.thenJ ?_
 exact ⟨(IM.le.refl _), rfl, hs23_0, hs23_2, rfl⟩
 rintro ρ34 M34 H34 ⟨hle34, rfl, hs34_0, hs34_2, hs34_25⟩
 have h0 := h0.mono hle34
 refine WC.cond (b := x33) hs34_25 (fun hb43 => ?_) (fun hb43 => ?_)
 have h := ite_t hb43 h
 refine Sr ?_
 refine Pu (.agg #[(.int .i64 0), (.slice none 0 0), (.int .i64 0), (.int .i64 5), (.string ⟨#[107, 105, 110, 100]⟩), (.int .i64 1)]) (PO.buildL (cl := [(.int .i64 0), (.slice none 0 0), (.int .i64 0), (.int .i64 5), (.string ⟨#[107, 105, 110, 100]⟩), (.int .i64 1)]) ze55 fp55 (Parts.cons (congrArg Value.cells (show ev _ _ = (.int .i64 5) from rfl)) (Parts.cons (congrArg Value.cells (show ev _ _ = (.string ⟨#[107, 105, 110, 100]⟩) from rfl)) (Parts.cons (congrArg Value.cells (show ev _ _ = (.int .i64 1) from rfl)) Parts.nil))) rfl) rfl ?_
 refine WL.eff (EO.storeL (v := (.agg #[(.int .i64 0), (.slice none 0 0), (.int .i64 0), (.int .i64 5), (.string ⟨#[107, 105, 110, 100]⟩), (.int .i64 1)])) (vl := [(.int .i64 0), (.slice none 0 0), (.int .i64 0), (.int .i64 5), (.string ⟨#[107, 105, 110, 100]⟩), (.int .i64 1)]) (arr' := [(.int .i64 0), (.slice none 0 0), (.int .i64 0), (.int .i64 5), (.string ⟨#[107, 105, 110, 100]⟩), (.int .i64 1)]) rfl sz55 hs34_2 rfl (onesOf (Ones.cons rfl (Ones.cons rfl (Ones.cons rfl (Ones.cons rfl (Ones.cons rfl (Ones.cons rfl Ones.nil))))))) rfl rfl rfl) rfl ?_
 rintro _ _ _ - ⟨rfl, rfl⟩
 refine Nt ?_
 refine WC.ret ?_
 refine WQ.thenR ?_
 exact WQ.returnsD h [] (fun _ hs => hs.drop) (resultsL1 rfl (RV.cellA (cs := [(.int .i64 0), (.slice none 0 0), (.int .i64 0), (.int .i64 5), (.string ⟨#[107, 105, 110, 100]⟩), (.int .i64 1)]) 0 ag55 sz55 hs34_2 rfl rfl)) (hle23.trans hle34) ⟨(.slice none 0 0), rfl, rfl, RS.nil _ _⟩
 have h := ite_f hb43 h
 refine WC.skip ?_
 refine WQ.thenC ?_
 refine WC.seq ?_
 refine Sr ?_
 refine Pm v0 hs34_0 rfl ?_
 refine Pu (.int .i64 (a0.length : Int)) (PO.lenS Tryd.underlying26 rfl h0.len) rfl ?_
 refine Pu (.bool (decide ((a0.length : Int) < (3 : Int)))) (PO.lss rfl rfl) rfl ?_
 refine Nt ?_
 refine WC.cond (b := decide ((a0.length : Int) < (3 : Int))) rfl (fun hb44 => ?_) (fun hb44 => ?_)
 have h := ite_t hb44 h
 refine Sr ?_
 refine Pu (.agg z55_.toArray) (PO.buildL (cl := z55_) ze55 fp55 Parts.nil rfl) rfl ?_
 refine WL.eff (EO.storeL (v := (.agg z55_.toArray)) (vl := z55_) (arr' := z55_) rfl sz55 hs34_2 rfl (onesOf (Ones.cons rfl (Ones.cons rfl (Ones.cons rfl (Ones.cons rfl (Ones.cons rfl (Ones.cons rfl Ones.nil))))))) rfl rfl rfl) rfl ?_
 rintro _ _ _ - ⟨rfl, rfl⟩
 refine Nt ?_
 refine WC.ret ?_
 refine WQ.thenR ?_
 exact WQ.returnsD h [] (fun _ hs => hs.drop) (resultsL1 rfl (RV.cellA (cs := z55_) 0 ag55 sz55 hs34_2 rfl rfl)) (hle23.trans hle34) ⟨(.slice none 0 0), rfl, rfl, RS.nil _ _⟩
 have h := ite_f hb44 h
 refine WC.skip ?_
 refine WQ.thenC ?_
 refine Sr ?_
 refine Pm v0 hs34_0 rfl ?_
 obtain ⟨hg45, h⟩ := grd_i h
 have h46 := h0.sub hg45.1 hg45.2.1 hg45.2.2
 refine Pu (slV v0 1 ((2 : Int)).toNat ((a0.length : Int)).toNat) (PO.slice (n := a0.length) (l := ((2 : Int)).toNat) (h := ((a0.length : Int)).toNat) Tryd.underlying26 sz5 rfl h0.len h0.cap ⟨_, _, rfl, hg45.1, rfl⟩ (boundN_ rfl) (Int.toNat_le_toNat hg45.2.1) (toNat_le_len hg45.2.2)) rfl ?_
 refine Pu (.agg z94_.toArray) (PO.buildL (cl := z94_) ze94 fp94 Parts.nil rfl) rfl ?_
 refine Pu (.agg #[(.int .i64 1), (.int .i64 16384), (.int .i64 0)]) (PO.buildL (cl := [(.int .i64 1), (.int .i64 16384), (.int .i64 0)]) ze101 fp101 (Parts.cons (congrArg Value.cells (show ev _ _ = (.int .i64 1) from rfl)) (Parts.cons (congrArg Value.cells (show ev _ _ = (.int .i64 16384) from rfl)) Parts.nil)) rfl) rfl ?_
 obtain ⟨⟨r47, r48⟩, hr49, h⟩ := bnd h
 refine WL.eff (EO.call0 co45 (f_ref02_Read_ok (sub a0 (2 : Int) (a0.length : Int)) (⟨(0 : Int), (0 : Int), (⟨#[]⟩ : ByteArray), (0 : Int)⟩ : T_ref02_State) (⟨(1 : Int), (16384 : Int), (0 : Int)⟩ : T_ref02_Ask) _ _ h46 (r47, r48) hr49) (args3 rfl rfl rfl)) rfl ?_
 rintro _ M50 _ hle51 ⟨_, ⟨vq53_2, vq53_3, cq53_3, rfl, rfl, hq53_2, hq53_3⟩, rfl⟩
 have h0 := h0.mono hle51
 have h46 := h46.mono hle51
 refine WL.a1 ?_
 refine Pm (.tuple #[(a94_ r47), (a97_ r48 vq53_2 vq53_3)]) rfl rfl ?_
 refine Pu (a94_ r47) (PO.extract rfl rfl) rfl ?_
 refine Pu (a97_ r48 vq53_2 vq53_3) (PO.extract rfl rfl) rfl ?_
 refine WL.eff (EO.alloc ze94 rfl) rfl ?_
 rintro _ _ _ - ⟨rfl, g54, rfl, rfl⟩
 refine WL.eff (EO.alloc ze97 rfl) rfl ?_
 rintro _ _ _ - ⟨rfl, g55, rfl, rfl⟩
 refine WL.f1 ?_
 refine WL.eff (EO.storeL (v := (a94_ r47)) (vl := (l94 r47)) (arr' := (l94 r47)) rfl sz94 rfl rfl (onesOf (Ones.cons rfl (Ones.cons rfl (Ones.cons rfl (Ones.cons rfl Ones.nil))))) rfl rfl rfl) rfl ?_
 rintro _ _ _ - ⟨rfl, rfl⟩
 refine WL.f1 ?_
 refine WL.eff (EO.storeL (v := (a97_ r48 vq53_2 vq53_3)) (vl := (l97 r48 vq53_2 vq53_3)) (arr' := (l97 r48 vq53_2 vq53_3)) rfl sz97 rfl rfl (onesOf (Ones.cons rfl (Ones.cons rfl (Ones.cons (RS.one hq53_2) (Ones.cons (OwnS.one hq53_3) Ones.nil))))) rfl rfl rfl) rfl ?_
 rintro _ _ _ - ⟨rfl, rfl⟩
 refine Nt ?_
 refine WC.seq ?_
 refine Sr ?_
 refine Pu (pt g54 1) (PO.fieldAddr fo94_1 rfl rfl) rfl ?_
 refine Pu (.int .i64 r47.Code) (PO.loadB 1 pl47 rfl rfl rfl) rfl ?_
 refine Pu (.bool (decide (r47.Code = 3))) (PO.eql rfl rfl) rfl ?_
 refine Nt ?_
 refine WC.cond (b := decide (r47.Code = 3)) rfl (fun hb56 => ?_) (fun hb56 => ?_)
 have h := ite_t hb56 h
 refine Sr ?_
 refine Pu (.agg z55_.toArray) (PO.buildL (cl := z55_) ze55 fp55 Parts.nil rfl) rfl ?_
 refine WL.f3 ?_
 refine WL.eff (EO.storeL (v := (.agg z55_.toArray)) (vl := z55_) (arr' := z55_) rfl sz55 hs34_2 rfl (onesOf (Ones.cons rfl (Ones.cons rfl (Ones.cons rfl (Ones.cons rfl (Ones.cons rfl (Ones.cons rfl Ones.nil))))))) rfl rfl rfl) rfl ?_
 rintro _ _ _ - ⟨rfl, rfl⟩
 refine Nt ?_
 refine WC.ret ?_
 refine WQ.thenR ?_
 refine WQ.f1 ?_
 refine WQ.drop ?_
 refine WQ.f1 ?_
 refine WQ.drop ?_
 refine WQ.f1 ?_
 refine WQ.drop ?_
 exact WQ.returnsD h [] (fun _ hs => hs.drop) (resultsL1 rfl (RV.cellA (cs := z55_) 0 ag55 sz55 hs34_2 rfl rfl)) ((hle23.trans hle34).trans hle51) ⟨(.slice none 0 0), rfl, rfl, RS.nil _ _⟩
 have h := ite_f hb56 h
 refine WC.skip ?_
 refine WQ.thenC ?_
 refine WC.seq ?_
 refine Sr ?_
 refine Pu (pt g54 1) (PO.fieldAddr fo94_1 rfl rfl) rfl ?_
 refine Pu (.int .i64 r47.Code) (PO.loadB 1 pl47 rfl rfl rfl) rfl ?_
 refine Pu (.bool (decide (r47.Code ≠ 0))) (PO.neq rfl rfl) rfl ?_
 refine Nt ?_
 refine WC.cond (b := decide (r47.Code ≠ 0)) rfl (fun hb57 => ?_) (fun hb57 => ?_)
 have h := ite_t hb57 h
 refine Sr ?_
 refine Pu (pt g54 1) (PO.fieldAddr fo94_1 rfl rfl) rfl ?_
 refine Pu (.int .i64 r47.Code) (PO.loadB 1 pl47 rfl rfl rfl) rfl ?_
 refine Pu (.agg #[(.int .i64 0), (.slice none 0 0), (.int .i64 0), (.int .i64 r47.Code), (.string ⟨#[108, 101, 110, 103, 116, 104]⟩), (.int .i64 2)]) (PO.buildL (cl := [(.int .i64 0), (.slice none 0 0), (.int .i64 0), (.int .i64 r47.Code), (.string ⟨#[108, 101, 110, 103, 116, 104]⟩), (.int .i64 2)]) ze55 fp55 (Parts.cons (congrArg Value.cells (show ev _ _ = (.int .i64 r47.Code) from rfl)) (Parts.cons (congrArg Value.cells (show ev _ _ = (.string ⟨#[108, 101, 110, 103, 116, 104]⟩) from rfl)) (Parts.cons (congrArg Value.cells (show ev _ _ = (.int .i64 2) from rfl)) Parts.nil))) rfl) rfl ?_
 refine WL.f3 ?_
 refine WL.eff (EO.storeL (v := (.agg #[(.int .i64 0), (.slice none 0 0), (.int .i64 0), (.int .i64 r47.Code), (.string ⟨#[108, 101, 110, 103, 116, 104]⟩), (.int .i64 2)])) (vl := [(.int .i64 0), (.slice none 0 0), (.int .i64 0), (.int .i64 r47.Code), (.string ⟨#[108, 101, 110, 103, 116, 104]⟩), (.int .i64 2)]) (arr' := [(.int .i64 0), (.slice none 0 0), (.int .i64 0), (.int .i64 r47.Code), (.string ⟨#[108, 101, 110, 103, 116, 104]⟩), (.int .i64 2)]) rfl sz55 hs34_2 rfl (onesOf (Ones.cons rfl (Ones.cons rfl (Ones.cons rfl (Ones.cons rfl (Ones.cons rfl (Ones.cons rfl Ones.nil))))))) rfl rfl rfl) rfl ?_
 rintro _ _ _ - ⟨rfl, rfl⟩
 refine Nt ?_
 refine WC.ret ?_
 refine WQ.thenR ?_
 refine WQ.f1 ?_
 refine WQ.drop ?_
 refine WQ.f1 ?_
 refine WQ.drop ?_
 refine WQ.f1 ?_
 refine WQ.drop ?_
 exact WQ.returnsD h [] (fun _ hs => hs.drop) (resultsL1 rfl (RV.cellA (cs := [(.int .i64 0), (.slice none 0 0), (.int .i64 0), (.int .i64 r47.Code), (.string ⟨#[108, 101, 110, 103, 116, 104]⟩), (.int .i64 2)]) 0 ag55 sz55 hs34_2 rfl rfl)) ((hle23.trans hle34).trans hle51) ⟨(.slice none 0 0), rfl, rfl, RS.nil _ _⟩
 have h := ite_f hb57 h
 refine WC.skip ?_
 refine WQ.thenC ?_
 refine Sr ?_
 refine Pu (pt g54 0) (PO.fieldAddr fo94_0 rfl rfl) rfl ?_
 refine Pu (.int .i64 r47.At) (PO.loadB 1 pl3 rfl rfl rfl) rfl ?_
 refine Pu (.int .i64 (IntKind.i64.wrap ((2 : Int) + r47.At))) (PO.add rfl rfl) rfl ?_
 refine Pa (.int .i64 (IntKind.i64.wrap ((2 : Int) + r47.At))) rfl rfl ?_
 refine Ns ?_
 refine Pm (.int .i64 (IntKind.i64.wrap ((2 : Int) + r47.At))) rfl rfl ?_
 refine Pu (pt g55 0) (PO.fieldAddr fo97_0 rfl rfl) rfl ?_
 refine Pu (.int .u64 r48.Num) (PO.loadB 0 pl42 rfl rfl rfl) rfl ?_
 refine Pu (.int .i64 (IntKind.i64.wrap r48.Num)) (PO.conv us42 Tryd.underlying3 rfl) rfl ?_
 refine Pu (.int .i64 (IntKind.i64.wrap ((IntKind.i64.wrap ((2 : Int) + r47.At)) + (IntKind.i64.wrap r48.Num)))) (PO.add rfl rfl) rfl ?_
 refine Pa (.int .i64 (IntKind.i64.wrap ((IntKind.i64.wrap ((2 : Int) + r47.At)) + (IntKind.i64.wrap r48.Num)))) rfl rfl ?_
 refine Nt ?_
 refine WC.seq ?_
 refine Sr ?_
 refine Pm v0 hs34_0 rfl ?_
 refine Pu (.int .i64 (a0.length : Int)) (PO.lenS Tryd.underlying26 rfl h0.len) rfl ?_
 refine Pm (.int .i64 (IntKind.i64.wrap ((IntKind.i64.wrap ((2 : Int) + r47.At)) + (IntKind.i64.wrap r48.Num)))) rfl rfl ?_
 refine Pu (.int .i64 (IntKind.i64.wrap ((IntKind.i64.wrap ((IntKind.i64.wrap ((2 : Int) + r47.At)) + (IntKind.i64.wrap r48.Num))) + 4))) (PO.add rfl rfl) rfl ?_
 refine Pu (.bool (decide ((a0.length : Int) < (IntKind.i64.wrap ((IntKind.i64.wrap ((IntKind.i64.wrap ((2 : Int) + r47.At)) + (IntKind.i64.wrap r48.Num))) + 4))))) (PO.lss rfl rfl) rfl ?_
 refine Nt ?_
 refine WC.cond (b := decide ((a0.length : Int) < (IntKind.i64.wrap ((IntKind.i64.wrap ((IntKind.i64.wrap ((2 : Int) + r47.At)) + (IntKind.i64.wrap r48.Num))) + 4)))) rfl (fun hb58 => ?_) (fun hb58 => ?_)
 have h := ite_t hb58 h
 refine Sr ?_
 refine Pu (.agg z55_.toArray) (PO.buildL (cl := z55_) ze55 fp55 Parts.nil rfl) rfl ?_
 refine WL.f3 ?_
 refine WL.eff (EO.storeL (v := (.agg z55_.toArray)) (vl := z55_) (arr' := z55_) rfl sz55 hs34_2 rfl (onesOf (Ones.cons rfl (Ones.cons rfl (Ones.cons rfl (Ones.cons rfl (Ones.cons rfl (Ones.cons rfl Ones.nil))))))) rfl rfl rfl) rfl ?_
 rintro _ _ _ - ⟨rfl, rfl⟩
 refine Nt ?_
 refine WC.ret ?_
 refine WQ.thenR ?_
 refine WQ.f1 ?_
 refine WQ.drop ?_
 refine WQ.f1 ?_
 refine WQ.drop ?_
 refine WQ.f1 ?_
 refine WQ.drop ?_
 exact WQ.returnsD h [] (fun _ hs => hs.drop) (resultsL1 rfl (RV.cellA (cs := z55_) 0 ag55 sz55 hs34_2 rfl rfl)) ((hle23.trans hle34).trans hle51) ⟨(.slice none 0 0), rfl, rfl, RS.nil _ _⟩
 have h := ite_f hb58 h
 refine WC.skip ?_
 refine WQ.thenC ?_
 refine WC.seq ?_
 refine WC.seq ?_
 refine WC.draw [0, 0, 3, 7, 0, 0, 32, 112, 255, 511] (.pure 0 (.pure 1 (.pure 2 (.pure 4 (.pure 5 (.pure 6 (.pure 7 (.alt 3 (.alt 8 (.pure 9 .done) .none) .none)))))))) mixed (by kernel_rfl) ?_
 refine Tp v0 rfl (PO.move hs34_0) rfl ?_
 refine Tp (.int .i64 (IntKind.i64.wrap ((IntKind.i64.wrap ((2 : Int) + r47.At)) + (IntKind.i64.wrap r48.Num)))) rfl (PO.move rfl) rfl ?_
 obtain ⟨hg59, h⟩ := grd_i h
 have h60 := h0.sub hg59.1 hg59.2.1 hg59.2.2
 refine Tp (slV v0 1 ((0 : Int)).toNat (IntKind.i64.wrap ((IntKind.i64.wrap ((2 : Int) + r47.At)) + (IntKind.i64.wrap r48.Num))).toNat) rfl (PO.slice (n := a0.length) (l := ((0 : Int)).toNat) (h := (IntKind.i64.wrap ((IntKind.i64.wrap ((2 : Int) + r47.At)) + (IntKind.i64.wrap r48.Num))).toNat) Tryd.underlying26 sz5 rfl h0.len h0.cap (bound0 rfl) ⟨_, _, rfl, (Int.le_trans hg59.1 hg59.2.1), rfl⟩ (Int.toNat_le_toNat hg59.2.1) (toNat_le_len hg59.2.2)) rfl ?_
 refine Tp v0 rfl (PO.move hs34_0) rfl ?_
 refine Tp (.int .i64 (IntKind.i64.wrap ((IntKind.i64.wrap ((2 : Int) + r47.At)) + (IntKind.i64.wrap r48.Num)))) rfl (PO.move rfl) rfl ?_
 refine Tp (.int .i64 (IntKind.i64.wrap ((IntKind.i64.wrap ((IntKind.i64.wrap ((2 : Int) + r47.At)) + (IntKind.i64.wrap r48.Num))) + 4))) rfl (PO.add rfl rfl) rfl ?_
 obtain ⟨hg61, h⟩ := grd_i h
 have h62 := h0.sub hg61.1 hg61.2.1 hg61.2.2
 refine Tp (slV v0 1 ((0 : Int)).toNat (IntKind.i64.wrap ((IntKind.i64.wrap ((IntKind.i64.wrap ((2 : Int) + r47.At)) + (IntKind.i64.wrap r48.Num))) + 4)).toNat) rfl (PO.slice (n := a0.length) (l := ((0 : Int)).toNat) (h := (IntKind.i64.wrap ((IntKind.i64.wrap ((IntKind.i64.wrap ((2 : Int) + r47.At)) + (IntKind.i64.wrap r48.Num))) + 4)).toNat) Tryd.underlying26 sz5 rfl h0.len h0.cap (bound0 rfl) ⟨_, _, rfl, (Int.le_trans hg61.1 hg61.2.1), rfl⟩ (Int.toNat_le_toNat hg61.2.1) (toNat_le_len hg61.2.2)) rfl ?_
 obtain ⟨r63, hr64, h⟩ := bnd h
 refine WT.alt rfl (EO.call0 co43 (f_ref03_Put_ok (sub a0 (0 : Int) (IntKind.i64.wrap ((IntKind.i64.wrap ((2 : Int) + r47.At)) + (IntKind.i64.wrap r48.Num)))) _ _ h60 r63 hr64) (args1 rfl)) rfl ?_ ?_
 rintro _ M65 _ hle66 ⟨_, ⟨vq67, cq67, rfl, rfl, hq67⟩, rfl⟩
 have h0 := h0.mono hle66
 have h60 := h60.mono hle66
 have h62 := h62.mono hle66
 have hq53_2 := hq53_2.mono hle66
 have hq53_3 := hq53_3.mono hle66
 refine ⟨(StabL.st (StabA.of rfl (PO.slice (n := a0.length) (l := ((0 : Int)).toNat) (h := (IntKind.i64.wrap ((IntKind.i64.wrap ((IntKind.i64.wrap ((2 : Int) + r47.At)) + (IntKind.i64.wrap r48.Num))) + 4)).toNat) Tryd.underlying26 sz5 rfl h0.len h0.cap (bound0 rfl) ⟨_, _, rfl, (Int.le_trans hg61.1 hg61.2.1), rfl⟩ (Int.toNat_le_toNat hg61.2.1) (toNat_le_len hg61.2.2)) rfl) (StabL.st (StabA.of rfl (PO.add rfl rfl) rfl) (StabL.st (StabA.of rfl (PO.move rfl) rfl) (StabL.st (StabA.of rfl (PO.move hs34_0) rfl) (StabL.anc rfl (StabL.anc rfl (StabL.anc rfl trivial))))))), ?_⟩
 refine WT.a1 ?_
 obtain ⟨r68, hr69, h⟩ := bnd h
 refine WT.alt rfl (EO.call1 co19 (Tri.lend hq67.excl fun w0_ H0_ hs0_ => (f_ref02_Same_ok r63 (sub a0 (0 : Int) (IntKind.i64.wrap ((IntKind.i64.wrap ((IntKind.i64.wrap ((2 : Int) + r47.At)) + (IntKind.i64.wrap r48.Num))) + 4))) _ _ _ (hq67.rs hs0_) (h62.mono (IM.le_add _ _)) r68 hr69)) (args2 rfl rfl)) rfl ?_ ?_
 rintro _ _ _ hle71 ⟨_, ⟨Ml73, Hl74, hll75, rfl, rfl, ⟨rfl, rfl⟩⟩, rfl⟩
 have h0 := h0.mono hle71
 have h60 := h60.mono hle71
 have h62 := h62.mono hle71
 have hq67 := hq67.mono hle71
 have hq53_2 := hq53_2.mono hle71
 have hq53_3 := hq53_3.mono hle71
 refine ⟨(StabL.anc rfl (StabL.anc rfl (StabL.anc rfl (StabL.anc rfl (StabL.anc rfl (StabL.anc rfl (StabL.anc rfl trivial))))))), ?_⟩
 refine WT.a1 ?_
 refine Tp (.bool (!r68)) rfl (PO.not rfl) rfl ?_
 refine WT.fin ?_
 refine WQ.thenC ?_
 refine WC.cond (b := !r68) rfl (fun hb76 => ?_) (fun hb76 => ?_)
 have h := ite_t hb76 h
 refine Sr ?_
 refine Pm (.int .i64 (IntKind.i64.wrap ((IntKind.i64.wrap ((2 : Int) + r47.At)) + (IntKind.i64.wrap r48.Num)))) rfl rfl ?_
 refine Pu (.agg #[(.int .i64 0), (.slice none 0 0), (.int .i64 0), (.int .i64 4), (.string ⟨#[115, 117, 109]⟩), (.int .i64 (IntKind.i64.wrap ((IntKind.i64.wrap ((2 : Int) + r47.At)) + (IntKind.i64.wrap r48.Num))))]) (PO.buildL (cl := [(.int .i64 0), (.slice none 0 0), (.int .i64 0), (.int .i64 4), (.string ⟨#[115, 117, 109]⟩), (.int .i64 (IntKind.i64.wrap ((IntKind.i64.wrap ((2 : Int) + r47.At)) + (IntKind.i64.wrap r48.Num))))]) ze55 fp55 (Parts.cons (congrArg Value.cells (show ev _ _ = (.int .i64 4) from rfl)) (Parts.cons (congrArg Value.cells (show ev _ _ = (.string ⟨#[115, 117, 109]⟩) from rfl)) (Parts.cons (congrArg Value.cells (show ev _ _ = (.int .i64 (IntKind.i64.wrap ((IntKind.i64.wrap ((2 : Int) + r47.At)) + (IntKind.i64.wrap r48.Num)))) from rfl)) Parts.nil))) rfl) rfl ?_
 refine WL.f4 ?_
 refine WL.eff (EO.storeL (v := (.agg #[(.int .i64 0), (.slice none 0 0), (.int .i64 0), (.int .i64 4), (.string ⟨#[115, 117, 109]⟩), (.int .i64 (IntKind.i64.wrap ((IntKind.i64.wrap ((2 : Int) + r47.At)) + (IntKind.i64.wrap r48.Num))))])) (vl := [(.int .i64 0), (.slice none 0 0), (.int .i64 0), (.int .i64 4), (.string ⟨#[115, 117, 109]⟩), (.int .i64 (IntKind.i64.wrap ((IntKind.i64.wrap ((2 : Int) + r47.At)) + (IntKind.i64.wrap r48.Num))))]) (arr' := [(.int .i64 0), (.slice none 0 0), (.int .i64 0), (.int .i64 4), (.string ⟨#[115, 117, 109]⟩), (.int .i64 (IntKind.i64.wrap ((IntKind.i64.wrap ((2 : Int) + r47.At)) + (IntKind.i64.wrap r48.Num))))]) rfl sz55 hs34_2 rfl (onesOf (Ones.cons rfl (Ones.cons rfl (Ones.cons rfl (Ones.cons rfl (Ones.cons rfl (Ones.cons rfl Ones.nil))))))) rfl rfl rfl) rfl ?_
 rintro _ _ _ - ⟨rfl, rfl⟩
 refine Nt ?_
 refine WC.ret ?_
 refine WQ.thenR ?_
 refine WQ.f1 ?_
 refine WQ.drop ?_
 refine WQ.f1 ?_
 refine WQ.drop ?_
 refine WQ.f1 ?_
 refine WQ.drop ?_
 refine WQ.f1 ?_
 refine WQ.drop ?_
 exact WQ.returnsD h [] (fun _ hs => hs.drop) (resultsL1 rfl (RV.cellA (cs := [(.int .i64 0), (.slice none 0 0), (.int .i64 0), (.int .i64 4), (.string ⟨#[115, 117, 109]⟩), (.int .i64 (IntKind.i64.wrap ((IntKind.i64.wrap ((2 : Int) + r47.At)) + (IntKind.i64.wrap r48.Num))))]) 0 ag55 sz55 hs34_2 rfl rfl)) ((((hle23.trans hle34).trans hle51).trans hle66).trans hle71) ⟨(.slice none 0 0), rfl, rfl, RS.nil _ _⟩
 have h := ite_f hb76 h
 refine WC.skip ?_
 refine WQ.thenC ?_
 refine WC.seq ?_
 refine WC.draw [0, 1, 3, 7, 0, 0, 0, 112, 255, 0, 512, 2047, 4095] (.pure 0 (.pure 1 (.pure 2 (.pure 3 (.pure 4 (.pure 5 (.pure 6 (.pure 7 (.pure 8 (.pure 9 (.pure 10 (.pure 11 (.alt 12 .done .none))))))))))))) mixed (by kernel_rfl) ?_
 refine Tp v0 rfl (PO.move hs34_0) rfl ?_
 obtain ⟨hg77, h⟩ := grd_i h
 obtain ⟨p78, cs79, hat80, hrc81, hhas82⟩ := h0.at hg77.1 hg77.2 (by decide)
 obtain rfl := hrc81
 refine Tp (.pointer (some p78)) rfl (PO.indexAddr (n := a0.length) Tryd.underlying26 sz5 rfl rfl hg77.1 hg77.2 hat80) rfl ?_
 refine Tp (.int .u8 (rd a0 (1 : Int))) rfl (PO.loadM pl5 rfl (IM.has0 hhas82)) rfl ?_
 refine Tp (.int .i64 (IntKind.i64.wrap (rd a0 (1 : Int)))) rfl (PO.conv us5 Tryd.underlying3 rfl) rfl ?_
 refine Tp v0 rfl (PO.move hs34_0) rfl ?_
 refine Tp (.int .i64 (IntKind.i64.wrap ((2 : Int) + r47.At))) rfl (PO.move rfl) rfl ?_
 refine Tp (.int .i64 (IntKind.i64.wrap ((IntKind.i64.wrap ((2 : Int) + r47.At)) + (IntKind.i64.wrap r48.Num)))) rfl (PO.move rfl) rfl ?_
 obtain ⟨hg84, h⟩ := grd_i h
 have h85 := h0.sub hg84.1 hg84.2.1 hg84.2.2
 refine Tp (slV v0 1 (IntKind.i64.wrap ((2 : Int) + r47.At)).toNat (IntKind.i64.wrap ((IntKind.i64.wrap ((2 : Int) + r47.At)) + (IntKind.i64.wrap r48.Num))).toNat) rfl (PO.slice (n := a0.length) (l := (IntKind.i64.wrap ((2 : Int) + r47.At)).toNat) (h := (IntKind.i64.wrap ((IntKind.i64.wrap ((2 : Int) + r47.At)) + (IntKind.i64.wrap r48.Num))).toNat) Tryd.underlying26 sz5 rfl h0.len h0.cap ⟨_, _, rfl, hg84.1, rfl⟩ ⟨_, _, rfl, (Int.le_trans hg84.1 hg84.2.1), rfl⟩ (Int.toNat_le_toNat hg84.2.1) (toNat_le_len hg84.2.2)) rfl ?_
 refine Tp (.agg #[(.int .i64 (IntKind.i64.wrap (rd a0 (1 : Int)))), (slV v0 1 (IntKind.i64.wrap ((2 : Int) + r47.At)).toNat (IntKind.i64.wrap ((IntKind.i64.wrap ((2 : Int) + r47.At)) + (IntKind.i64.wrap r48.Num))).toNat)]) rfl (PO.buildL (cl := [(.int .i64 (IntKind.i64.wrap (rd a0 (1 : Int)))), (slV v0 1 (IntKind.i64.wrap ((2 : Int) + r47.At)).toNat (IntKind.i64.wrap ((IntKind.i64.wrap ((2 : Int) + r47.At)) + (IntKind.i64.wrap r48.Num))).toNat)]) ze40 fp40 (Parts.cons (congrArg Value.cells (show ev _ _ = (.int .i64 (IntKind.i64.wrap (rd a0 (1 : Int)))) from rfl)) (Parts.cons ((congrArg Value.cells (show ev _ _ = (slV v0 1 (IntKind.i64.wrap ((2 : Int) + r47.At)).toNat (IntKind.i64.wrap ((IntKind.i64.wrap ((2 : Int) + r47.At)) + (IntKind.i64.wrap r48.Num))).toNat) from rfl)).trans h85.cells) Parts.nil)) rfl) rfl ?_
 refine Tp (.int .i64 (IntKind.i64.wrap ((IntKind.i64.wrap ((2 : Int) + r47.At)) + (IntKind.i64.wrap r48.Num)))) rfl (PO.move rfl) rfl ?_
 refine Tp (.int .i64 (IntKind.i64.wrap ((IntKind.i64.wrap ((IntKind.i64.wrap ((2 : Int) + r47.At)) + (IntKind.i64.wrap r48.Num))) + 4))) rfl (PO.add rfl rfl) rfl ?_
 refine Tp (.agg #[(.int .i64 (IntKind.i64.wrap (rd a0 (1 : Int)))), (slV v0 1 (IntKind.i64.wrap ((2 : Int) + r47.At)).toNat (IntKind.i64.wrap ((IntKind.i64.wrap ((2 : Int) + r47.At)) + (IntKind.i64.wrap r48.Num))).toNat), (.int .i64 (IntKind.i64.wrap ((IntKind.i64.wrap ((IntKind.i64.wrap ((2 : Int) + r47.At)) + (IntKind.i64.wrap r48.Num))) + 4))), (.int .i64 0), (.string ⟨#[]⟩), (.int .i64 0)]) rfl (PO.buildL (cl := [(.int .i64 (IntKind.i64.wrap (rd a0 (1 : Int)))), (slV v0 1 (IntKind.i64.wrap ((2 : Int) + r47.At)).toNat (IntKind.i64.wrap ((IntKind.i64.wrap ((2 : Int) + r47.At)) + (IntKind.i64.wrap r48.Num))).toNat), (.int .i64 (IntKind.i64.wrap ((IntKind.i64.wrap ((IntKind.i64.wrap ((2 : Int) + r47.At)) + (IntKind.i64.wrap r48.Num))) + 4))), (.int .i64 0), (.string ⟨#[]⟩), (.int .i64 0)]) ze55 fp55 (Parts.cons (congrArg Value.cells (show ev _ _ = (.agg #[(.int .i64 (IntKind.i64.wrap (rd a0 (1 : Int)))), (slV v0 1 (IntKind.i64.wrap ((2 : Int) + r47.At)).toNat (IntKind.i64.wrap ((IntKind.i64.wrap ((2 : Int) + r47.At)) + (IntKind.i64.wrap r48.Num))).toNat)]) from rfl)) (Parts.cons (congrArg Value.cells (show ev _ _ = (.int .i64 (IntKind.i64.wrap ((IntKind.i64.wrap ((IntKind.i64.wrap ((2 : Int) + r47.At)) + (IntKind.i64.wrap r48.Num))) + 4))) from rfl)) Parts.nil)) rfl) rfl ?_
 refine WT.f4 ?_
 refine WT.alt rfl (EO.storeL (v := (.agg #[(.int .i64 (IntKind.i64.wrap (rd a0 (1 : Int)))), (slV v0 1 (IntKind.i64.wrap ((2 : Int) + r47.At)).toNat (IntKind.i64.wrap ((IntKind.i64.wrap ((2 : Int) + r47.At)) + (IntKind.i64.wrap r48.Num))).toNat), (.int .i64 (IntKind.i64.wrap ((IntKind.i64.wrap ((IntKind.i64.wrap ((2 : Int) + r47.At)) + (IntKind.i64.wrap r48.Num))) + 4))), (.int .i64 0), (.string ⟨#[]⟩), (.int .i64 0)])) (vl := [(.int .i64 (IntKind.i64.wrap (rd a0 (1 : Int)))), (slV v0 1 (IntKind.i64.wrap ((2 : Int) + r47.At)).toNat (IntKind.i64.wrap ((IntKind.i64.wrap ((2 : Int) + r47.At)) + (IntKind.i64.wrap r48.Num))).toNat), (.int .i64 (IntKind.i64.wrap ((IntKind.i64.wrap ((IntKind.i64.wrap ((2 : Int) + r47.At)) + (IntKind.i64.wrap r48.Num))) + 4))), (.int .i64 0), (.string ⟨#[]⟩), (.int .i64 0)]) (arr' := [(.int .i64 (IntKind.i64.wrap (rd a0 (1 : Int)))), (slV v0 1 (IntKind.i64.wrap ((2 : Int) + r47.At)).toNat (IntKind.i64.wrap ((IntKind.i64.wrap ((2 : Int) + r47.At)) + (IntKind.i64.wrap r48.Num))).toNat), (.int .i64 (IntKind.i64.wrap ((IntKind.i64.wrap ((IntKind.i64.wrap ((2 : Int) + r47.At)) + (IntKind.i64.wrap r48.Num))) + 4))), (.int .i64 0), (.string ⟨#[]⟩), (.int .i64 0)]) rfl sz55 hs34_2 rfl (onesOf (Ones.cons rfl (Ones.cons (RS.one h85) (Ones.cons rfl (Ones.cons rfl (Ones.cons rfl (Ones.cons rfl Ones.nil))))))) rfl rfl rfl) rfl ?_ ?_
 rintro _ _ _ - ⟨rfl, rfl⟩
 refine ⟨(StabL.anc rfl (StabL.anc rfl (StabL.anc rfl (StabL.anc rfl (StabL.anc rfl (StabL.anc rfl (StabL.anc rfl (StabL.anc rfl (StabL.anc rfl (StabL.anc rfl (StabL.anc rfl (StabL.anc rfl trivial)))))))))))), ?_⟩
 refine WT.fin ?_
 refine WQ.thenC ?_
 refine WC.ret ?_
 refine WQ.f1 ?_
 refine WQ.drop ?_
 refine WQ.f1 ?_
 refine WQ.drop ?_
 refine WQ.f1 ?_
 refine WQ.drop ?_
 refine WQ.f1 ?_
 refine WQ.drop ?_
 exact WQ.returnsD h [] (fun _ hs => hs.drop) (resultsL1 rfl (RV.cellA (cs := [(.int .i64 (IntKind.i64.wrap (rd a0 (1 : Int)))), (slV v0 1 (IntKind.i64.wrap ((2 : Int) + r47.At)).toNat (IntKind.i64.wrap ((IntKind.i64.wrap ((2 : Int) + r47.At)) + (IntKind.i64.wrap r48.Num))).toNat), (.int .i64 (IntKind.i64.wrap ((IntKind.i64.wrap ((IntKind.i64.wrap ((2 : Int) + r47.At)) + (IntKind.i64.wrap r48.Num))) + 4))), (.int .i64 0), (.string ⟨#[]⟩), (.int .i64 0)]) 0 ag55 sz55 hs34_2 rfl rfl)) ((((hle23.trans hle34).trans hle51).trans hle66).trans hle71) ⟨(slV v0 1 (IntKind.i64.wrap ((2 : Int) + r47.At)).toNat (IntKind.i64.wrap ((IntKind.i64.wrap ((2 : Int) + r47.At)) + (IntKind.i64.wrap r48.Num))).toNat), rfl, rfl, h85⟩
 exact WT.no
 exact WT.no
 exact WT.no

noncomputable def f_fault_Path_l0 (s_ : (GErr × (List ByteArray))) : Option ((GErr × (List ByteArray)) ⊕ (List ByteArray)) :=
  match s_ with
  | (x24, x25) =>
    (if (!x24.isNil) = true then ((f_errors_As_fault x24 (⟨(⟨#[]⟩ : ByteArray), (0 : Int), GErr.nil⟩ : T_api_Fault)).bind fun (r29, r30, r31, r32) => (if (!r29) = true then (some (Sum.inr x25)) else (grd (x25.length + [r30].length ≤ 274877906944) (some (Sum.inl (r32, x25 ++ [r30])))))) else (some (Sum.inr x25)))
noncomputable def f_fault_Path (a0 : GErr) : Option (List ByteArray) :=
  ((((iter (f_fault_Path_l0) (a0, [])).bind (fun (x26 : (List ByteArray)) => (some x26))) : Option (List ByteArray)).bind fun (x21 : (List ByteArray)) => (some x21))
def f_fault_Path_post (a0 : GErr) : (List ByteArray) → Value → IM → HL → Prop :=
  fun (r0 : (List ByteArray)) (v : Value) (M' : IM) (H' : HL) => ∃ vz0 cz0, vz0 = v ∧ H' = [cz0] ∧ OwnS Kd.str M' vz0 r0 cz0
theorem f_fault_Path_ok (a0 : GErr) (M : IM) (hE : Env M) (res : (List ByteArray)) (h : f_fault_Path a0 = some res) :
    Tri Tryd.prog 46 #[(GV a0)] M [] (f_fault_Path_post a0 res) := by
 unfold f_fault_Path at h
 refine Tri.enter (fn := Tryd.f46) Tryd.func46 rfl (Nat.le_of_ble_eq_true rfl) ?_
 intro F ρ hρ
 refine Sr ?_
 refine Pa (.slice none 0 0) rfl rfl ?_
 refine Ns ?_
 refine Pa (.slice none 0 0) rfl rfl ?_
 refine Nt ?_
 obtain ⟨x21, hj22, h⟩ := bnd h
 refine WC.joinF (fun (x21 : (List ByteArray)) ρ' M' H' => ∃ vx21 cx21, M.le M' ∧ cx21 :: F = H' ∧ ρ' 3 = vx21 ∧ OwnS Kd.str M' vx21 x21 cx21) x21 ?_ ?_
 have h322 := h
 have h := hj22
 refine WC.block ?_
 refine WC.e0 ?_
 obtain ⟨e23, he23, hK23⟩ := bnd h
 clear h
 refine WC.loop he23 (fun (p_ : (GErr × (List ByteArray))) ρ' M' H' => match p_ with | (x24, x25) => ∃ vx25 cx25, M.le M' ∧ cx25 :: F = H' ∧ ρ' 0 = (GV x24) ∧ ρ' 3 = vx25 ∧ OwnS Kd.str M' vx25 x25 cx25) ?_ ?_
 exact ⟨(.slice none 0 0), [], (IM.le.refl _), rfl, (hρ 0), rfl, (OwnS.nil _ _)⟩
 rintro ⟨x24, x25⟩ o23 ρ23 M23 H23 h ⟨vx25, cx25, hle23, rfl, hs23_0, hs23_3, hx25⟩
 unfold f_fault_Path_l0 at h
 have hE := hE.mono hle23
 refine WC.seq ?_
 refine Sr ?_
 refine Pm (GV x24) hs23_0 rfl ?_
 refine Pu (.bool (!x24.isNil)) (PO.errNotNil Tryd.underlying28 rfl) rfl ?_
 refine Nt ?_
 refine WC.cond (b := !x24.isNil) rfl (fun hb27 => ?_) (fun hb27 => ?_)
 have h := ite_t hb27 h
 refine WC.skip ?_
 refine WQ.thenC ?_
 refine WC.block ?_
 refine Sr ?_
 refine WL.eff (EO.alloc ze89 rfl) rfl ?_
 rintro _ _ _ - ⟨rfl, g28, rfl, rfl⟩
 refine Nt ?_
 refine WC.seq ?_
 refine Sr ?_
 refine Pm (GV x24) hs23_0 rfl ?_
 refine Pu (.iface 91 (pt g28 0)) (PO.makeInterface cc91 rfl) rfl ?_
 obtain ⟨⟨r29, r30, r31, r32⟩, hr33, h⟩ := bnd h
 refine WL.eff (EO.call1 co44 (f_errors_As_fault_ok x24 (⟨(⟨#[]⟩ : ByteArray), (0 : Int), GErr.nil⟩ : T_api_Fault) _ _ hE (r29, r30, r31, r32) hr33) (args2 rfl rfl)) rfl ?_
 rintro _ M34 _ hle35 ⟨_, ⟨rfl, rfl⟩, rfl⟩
 have hx25 := hx25.mono hle35
 have hE := hE.mono hle35
 refine WL.a1 ?_
 refine Pu (.bool (!r29)) (PO.not rfl) rfl ?_
 refine Nt ?_
 refine WC.cond (b := !r29) rfl (fun hb37 => ?_) (fun hb37 => ?_)
 have h := ite_t hb37 h
 refine WC.exit ?_
 refine WQ.thenE ?_
 refine WQ.blockM rfl ?_
 refine WQ.leaveE x25 (Option.some.inj h).symm (fun heq23 => ?_)
 subst heq23
 have h := hK23
 refine WQ.blockH ?_
 refine WQ.drop ?_
 obtain rfl := Option.some.inj h
 refine WQ.thenJ ?_
 exact ⟨vx25, cx25, (hle23.trans hle35), rfl, hs23_3, hx25⟩
 have h := ite_f hb37 h
 refine WC.skip ?_
 refine WQ.thenC ?_
 refine Sr ?_
 refine Pm vx25 hs23_3 rfl ?_
 refine Pu (pt g28 0) (PO.fieldAddr fo89_0 rfl rfl) rfl ?_
 refine Pu (.string r30) (PO.loadB 0 pl9 rfl rfl rfl) rfl ?_
 refine WL.eff (EO.buildSliceL (cl := [(.string r30)]) Tryd.underlying102 iz9 rfl (Parts.cons (congrArg Value.cells (show ev _ _ = (.string r30) from rfl)) Parts.nil) rfl) rfl ?_
 rintro _ _ _ - ⟨rfl, g38, rfl, rfl⟩
 have h40 : OwnS Kd.str M34 (.slice (some ⟨g38, 0, none⟩) 1 1) [r30] [(g38, .cells #[(.string r30)] 9 (0, 0))] := OwnS.rows (css := [[(.string r30)]]) (Rows.cons rfl Rows.nil) rfl rfl
 obtain ⟨hg44, h⟩ := grd_i h
 refine WL.f2 ?_
 refine WL.eff (EO.append (dd := Kd.str) (xs := x25) (ys := [r30]) Tryd.underlying102 Tryd.underlying102 in9 rfl (appB (by decide) hg44) (by decide) rfl rfl hx25 (h40.src 1 rfl)) rfl ?_
 rintro v43 _ _ - ⟨rfl, c41, rfl, h42⟩
 refine Pa v43 rfl rfl ?_
 refine Nt ?_
 refine WC.region ?_
 refine Pu (pt g28 2) (PO.fieldAddr fo89_2 rfl rfl) rfl ?_
 refine Pu (GV r32) (PO.loadB 2 pl28 rfl rfl rfl) rfl ?_
 refine Pa (GV r32) rfl rfl ?_
 refine WL.nil ?_
 refine WQ.blockN ?_
 refine WQ.f1 ?_
 refine WQ.drop ?_
 refine WQ.f1 ?_
 refine WQ.drop ?_
 refine WQ.again (r32, x25 ++ [r30]) (Option.some.inj h).symm ?_
 exact ⟨v43, c41, (hle23.trans hle35), rfl, rfl, rfl, h42⟩
 have h := ite_f hb27 h
 refine WC.exit ?_
 refine WQ.thenE ?_
 refine WQ.leaveE x25 (Option.some.inj h).symm (fun heq23 => ?_)
 subst heq23
 have h := hK23
 refine WQ.blockH ?_
 obtain rfl := Option.some.inj h
 refine WQ.thenJ ?_
 exact ⟨vx25, cx25, hle23, rfl, hs23_3, hx25⟩
 rintro ρ22 M22 H22 ⟨vx21, cx21, hle22, rfl, hs22_3, hx21⟩
 have hE := hE.mono hle22
 refine Sr ?_
 refine Pm vx21 hs22_3 rfl ?_
 refine Pa vx21 rfl rfl ?_
 refine Nt ?_
 refine WC.ret ?_
 exact WQ.returnsF h [cx21] rfl (results1 rfl rfl) hle22 ⟨vx21, cx21, rfl, rfl, hx21⟩

noncomputable def f_fault_Under_l0 (a1 : ByteArray) (r22 : (List ByteArray)) (s_ : Int) : Option (Int ⊕ (Unit ⊕ Unit)) :=
  match s_ with
  | x28 =>
    (if (decide (x28 < (r22.length : Int))) = true then (grd (0 ≤ x28 ∧ x28 < r22.length) (if (decide ((rd r22 x28) = a1)) = true then (some (Sum.inr (Sum.inr ()))) else (some (Sum.inl (IntKind.i64.wrap (x28 + (1 : Int))))))) else (some (Sum.inr (Sum.inl ()))))
noncomputable def f_fault_Under (a0 : GErr) (a1 : ByteArray) : Option Bool :=
  ((((f_fault_Path a0).bind fun (r22 : (List ByteArray)) => ((iter (f_fault_Under_l0 a1 r22) (0 : Int)).bind (Sum.elim (fun _ => (some (Sum.inl ()))) (fun _ => (((some true)).bind fun r => some (Sum.inr r)))))) : Option (Unit ⊕ Bool)).bind (Sum.elim (fun _ => (some false)) some))
def f_fault_Under_post (a0 : GErr) (a1 : ByteArray) : Bool → Value → IM → HL → Prop :=
  fun (r0 : Bool) (v : Value) (M' : IM) (H' : HL) => (.bool r0) = v ∧ H' = []
theorem f_fault_Under_ok (a0 : GErr) (a1 : ByteArray) (M : IM) (hE : Env M) (res : Bool) (h : f_fault_Under a0 a1 = some res) :
    Tri Tryd.prog 26 #[(GV a0), (.string a1)] M [] (f_fault_Under_post a0 a1 res) := by
 unfold f_fault_Under at h
 refine Tri.enter (fn := Tryd.f26) Tryd.func26 rfl (Nat.le_of_ble_eq_true rfl) ?_
 intro F ρ hρ
 refine Sr ?_
 refine Pa (.bool false) rfl rfl ?_
 refine Nt ?_
 obtain ⟨j21, hj21, h⟩ := bnd h
 refine WC.joinE (fun (_ : Unit) ρ' M' H' => M.le M' ∧ F = H') j21 ?_ ?_
 have h321 := h
 have h := hj21
 refine Sr ?_
 refine Pm (GV a0) (hρ 0) rfl ?_
 obtain ⟨r22, hr23, h⟩ := bnd h
 refine WL.eff (EO.call0 co46 (f_fault_Path_ok a0 _ hE r22 hr23) (args1 rfl)) rfl ?_
 rintro _ M24 _ hle25 ⟨_, ⟨vq26, cq26, rfl, rfl, hq26⟩, rfl⟩
 have hE := hE.mono hle25
 refine WL.a1 ?_
 refine Pu (.int .i64 (r22.length : Int)) (PO.lenS Tryd.underlying102 rfl hq26.len) rfl ?_
 refine Pm (.int .i64 0) rfl rfl ?_
 refine Nt ?_
 refine WC.block ?_
 obtain ⟨e27, he27, hK27⟩ := bnd h
 clear h
 refine WC.loop he27 (fun (x28 : Int) ρ' M' H' => M24.le M' ∧ cq26 :: F = H' ∧ ρ' 1 = (.string a1) ∧ ρ' 8 = vq26 ∧ ρ' 9 = (.int .i64 (r22.length : Int)) ∧ ρ' 10 = (.int .i64 x28)) ?_ ?_
 exact ⟨(IM.le.refl _), rfl, (hρ 1), rfl, rfl, rfl⟩
 rintro x28 o27 ρ27 M27 H27 h ⟨hle27, rfl, hs27_1, hs27_8, hs27_9, hs27_10⟩
 unfold f_fault_Under_l0 at h
 have hq26 := hq26.mono hle27
 have hE := hE.mono hle27
 refine Sr ?_
 refine Pu (.bool (decide (x28 < (r22.length : Int)))) (PO.lss hs27_10 hs27_9) rfl ?_
 refine Nt ?_
 refine WC.seq ?_
 refine WC.cond (b := decide (x28 < (r22.length : Int))) rfl (fun hb29 => ?_) (fun hb29 => ?_)
 have h := ite_t hb29 h
 refine WC.skip ?_
 refine WQ.thenC ?_
 refine WC.seq ?_
 refine WC.block ?_
 refine Sr ?_
 obtain ⟨hg30, h⟩ := grd_i h
 obtain ⟨p31, cs32, hat33, hrc34, hhas35⟩ := hq26.at hg30.1 hg30.2
 obtain rfl := hrc34
 refine Pu (.pointer (some p31)) (PO.indexAddr (n := r22.length) Tryd.underlying102 sz9 hs27_8 hs27_10 hg30.1 hg30.2 hat33) rfl ?_
 refine Pu (.string (rd r22 x28)) (PO.loadC 0 pl9 rfl rfl (chunkHas0 hhas35)) rfl ?_
 refine Pa (.string (rd r22 x28)) rfl rfl ?_
 refine Ns ?_
 refine Pm (.string (rd r22 x28)) rfl rfl ?_
 refine Pm (.string a1) hs27_1 rfl ?_
 refine Pu (.bool (decide ((rd r22 x28) = a1))) (PO.seql rfl rfl) rfl ?_
 refine Nt ?_
 refine WC.cond (b := decide ((rd r22 x28) = a1)) rfl (fun hb37 => ?_) (fun hb37 => ?_)
 have h := ite_t hb37 h
 refine Sr ?_
 refine Pa (.bool true) rfl rfl ?_
 refine Nt ?_
 refine WC.ret ?_
 refine WQ.blockR ?_
 refine WQ.thenR ?_
 refine WQ.leaveR (Sum.inr ()) (Option.some.inj h).symm (fun heq27 => ?_)
 subst heq27
 have h := (elimR hK27)
 refine WQ.blockR ?_
 refine WQ.thenR ?_
 have h := KK.early h h321
 refine WQ.drop ?_
 exact WQ.returnsF h [] rfl (results1 rfl rfl) (hle25.trans hle27) ⟨rfl, rfl⟩
 have h := ite_f hb37 h
 refine WC.skip ?_
 refine WQ.blockN ?_
 refine WQ.thenC ?_
 refine WC.region ?_
 refine Pu (.int .i64 (IntKind.i64.wrap (x28 + 1))) (PO.add hs27_10 rfl) rfl ?_
 refine Pm (.int .i64 (IntKind.i64.wrap (x28 + 1))) rfl rfl ?_
 refine WL.nil ?_
 refine WQ.again (IntKind.i64.wrap (x28 + 1)) (Option.some.inj h).symm ?_
 exact ⟨hle27, rfl, hs27_1, hs27_8, hs27_9, rfl⟩
 have h := ite_f hb29 h
 refine WC.exit ?_
 refine WQ.thenE ?_
 refine WQ.leaveE (Sum.inl ()) (Option.some.inj h).symm (fun heq27 => ?_)
 subst heq27
 have h := elimL hK27
 refine WQ.blockH ?_
 refine WQ.drop ?_
 refine WQ.thenFE h ?_
 exact ⟨(hle25.trans hle27), rfl⟩
 rintro _ ρ21 M21 H21 rfl ⟨hle21, rfl⟩
 have h := (Sum.elim_inl _ _ _).symm.trans h
 have hE := hE.mono hle21
 refine Sr ?_
 refine Pa (.bool false) rfl rfl ?_
 refine Nt ?_
 refine WC.ret ?_
 exact WQ.returnsF h [] rfl (results1 rfl rfl) hle21 ⟨rfl, rfl⟩

noncomputable def f_law04_wrong (a0 : GErr) (a1 : Int) (a2 : ByteArray) (a3 : Int) : Option Bool :=
  (if a0.isNil = true then (some (decide (a1 = (0 : Int)))) else ((f_fault_Where a0).bind fun (r22, r23) => ((((f_fault_Of a0).bind fun (r31 : Int) => (if (decide (r31 = a1)) = true then (if r23 = true then (if (decide (r22 = a3)) = true then ((f_fault_Under a0 a2).bind fun (r39 : Bool) => (some r39)) else (some false)) else (some false)) else (some false))) : Option Bool).bind fun (x29 : Bool) => (some x29))))
def f_law04_wrong_post (a0 : GErr) (a1 : Int) (a2 : ByteArray) (a3 : Int) : Bool → Value → IM → HL → Prop :=
  fun (r0 : Bool) (v : Value) (M' : IM) (H' : HL) => (.bool r0) = v ∧ H' = []
theorem f_law04_wrong_ok (a0 : GErr) (a1 : Int) (a2 : ByteArray) (a3 : Int) (M : IM) (hE : Env M) (res : Bool) (h : f_law04_wrong a0 a1 a2 a3 = some res) :
    Tri Tryd.prog 24 #[(GV a0), (.int .i64 a1), (.string a2), (.int .i64 a3)] M [] (f_law04_wrong_post a0 a1 a2 a3 res) := by
 unfold f_law04_wrong at h
 refine Tri.enter (fn := Tryd.f24) Tryd.func24 rfl (Nat.le_of_ble_eq_true rfl) ?_
 intro F ρ hρ
 refine Sr ?_
 refine Pa (.bool false) rfl rfl ?_
 refine Nt ?_
 refine WC.seq ?_
 refine Sr ?_
 refine Pm (GV a0) (hρ 0) rfl ?_
 refine Pu (.bool a0.isNil) (PO.errNil Tryd.underlying28 rfl) rfl ?_
 refine Nt ?_
 refine WC.cond (b := a0.isNil) rfl (fun hb21 => ?_) (fun hb21 => ?_)
 have h := ite_t hb21 h
 refine Sr ?_
 refine Pm (.int .i64 a1) (hρ 1) rfl ?_
 refine Pu (.bool (decide (a1 = 0))) (PO.eql rfl rfl) rfl ?_
 refine Pa (.bool (decide (a1 = 0))) rfl rfl ?_
 refine Nt ?_
 refine WC.ret ?_
 refine WQ.thenR ?_
 exact WQ.returnsF h [] rfl (results1 rfl rfl) (IM.le.refl _) ⟨rfl, rfl⟩
 have h := ite_f hb21 h
 refine WC.skip ?_
 refine WQ.thenC ?_
 refine Sr ?_
 refine Pm (GV a0) (hρ 0) rfl ?_
 obtain ⟨⟨r22, r23⟩, hr24, h⟩ := bnd h
 refine WL.eff (EO.call0 co21 (f_fault_Where_ok a0 _ hE (r22, r23) hr24) (args1 rfl)) rfl ?_
 rintro _ M25 _ hle26 ⟨_, ⟨rfl, rfl⟩, rfl⟩
 have hE := hE.mono hle26
 refine WL.a0 ?_
 refine Pm (.tuple #[(.int .i64 r22), (.bool r23)]) rfl rfl ?_
 refine Pu (.int .i64 r22) (PO.extract rfl rfl) rfl ?_
 refine Pu (.bool r23) (PO.extract rfl rfl) rfl ?_
 refine Pa (.int .i64 r22) rfl rfl ?_
 refine Pa (.bool r23) rfl rfl ?_
 refine Nt ?_
 obtain ⟨x29, hj30, h⟩ := bnd h
 refine WC.joinF (fun (x29 : Bool) ρ' M' H' => M25.le M' ∧ F = H' ∧ ρ' 8 = (.bool x29)) x29 ?_ ?_
 have h330 := h
 have h := hj30
 refine WC.region ?_
 refine Pm (GV a0) (hρ 0) rfl ?_
 obtain ⟨r31, hr32, h⟩ := bnd h
 refine WL.eff (EO.call0 co22 (f_fault_Of_ok a0 _ hE r31 hr32) (args1 rfl)) rfl ?_
 rintro _ M33 _ hle34 ⟨_, ⟨rfl, rfl⟩, rfl⟩
 have hE := hE.mono hle34
 refine WL.a0 ?_
 refine Pm (.int .i64 a1) (hρ 1) rfl ?_
 refine Pu (.bool (decide (r31 = a1))) (PO.eql rfl rfl) rfl ?_
 refine Pm (.bool (decide (r31 = a1))) rfl rfl ?_
 rcases Bool.eq_false_or_eq_true (decide (r31 = a1)) with hb36 | hb36
 have h := ite_t hb36 h
 refine On 24 rfl rfl hb36 ?_
 refine Pm (.bool r23) rfl rfl ?_
 refine Pu (.bool r23) (PO.pickT rfl hb36 rfl) rfl ?_
 refine Pm (.bool r23) rfl rfl ?_
 rcases Bool.eq_false_or_eq_true (r23) with hb37 | hb37
 have h := ite_t hb37 h
 refine On 27 rfl rfl hb37 ?_
 refine Pm (.int .i64 r22) rfl rfl ?_
 refine On 27 rfl rfl hb37 ?_
 refine Pm (.int .i64 a3) (hρ 3) rfl ?_
 refine On 27 rfl rfl hb37 ?_
 refine Pu (.bool (decide (r22 = a3))) (PO.eql rfl rfl) rfl ?_
 refine Pu (.bool (decide (r22 = a3))) (PO.pickT rfl hb37 rfl) rfl ?_
 refine Pm (.bool (decide (r22 = a3))) rfl rfl ?_
 rcases Bool.eq_false_or_eq_true (decide (r22 = a3)) with hb38 | hb38
 have h := ite_t hb38 h
 refine On 32 rfl rfl hb38 ?_
 refine Pm (GV a0) (hρ 0) rfl ?_
 refine On 32 rfl rfl hb38 ?_
 refine Pm (.string a2) (hρ 2) rfl ?_
 refine On 32 rfl rfl hb38 ?_
 obtain ⟨r39, hr40, h⟩ := bnd h
 refine WL.eff (EO.call0 co26 (f_fault_Under_ok a0 a2 _ hE r39 hr40) (args2 rfl rfl)) rfl ?_
 rintro _ M41 _ hle42 ⟨_, ⟨rfl, rfl⟩, rfl⟩
 have hE := hE.mono hle42
 refine WL.a0 ?_
 refine Pu (.bool r39) (PO.pickT rfl hb38 rfl) rfl ?_
 refine Pa (.bool r39) rfl rfl ?_
 refine WL.nil ?_
 obtain rfl := Option.some.inj h
 refine WQ.thenJ ?_
 exact ⟨(hle34.trans hle42), rfl, rfl⟩
 have h := ite_f hb38 h
 iterate 3 refine Of 32 rfl rfl hb38 rfl ?_
 refine Pu (.bool false) (PO.pickF rfl hb38 rfl) rfl ?_
 refine Pa (.bool false) rfl rfl ?_
 refine WL.nil ?_
 obtain rfl := Option.some.inj h
 refine WQ.thenJ ?_
 exact ⟨hle34, rfl, rfl⟩
 have h := ite_f hb37 h
 iterate 3 refine Of 27 rfl rfl hb37 rfl ?_
 refine Pu (.bool false) (PO.pickF rfl hb37 rfl) rfl ?_
 refine Pm (.bool false) rfl rfl ?_
 iterate 3 refine Of 32 rfl rfl rfl rfl ?_
 refine Pu (.bool false) (PO.pickF rfl rfl rfl) rfl ?_
 refine Pa (.bool false) rfl rfl ?_
 refine WL.nil ?_
 obtain rfl := Option.some.inj h
 refine WQ.thenJ ?_
 exact ⟨hle34, rfl, rfl⟩
 have h := ite_f hb36 h
 refine Of 24 rfl rfl hb36 rfl ?_
 refine Pu (.bool false) (PO.pickF rfl hb36 rfl) rfl ?_
 refine Pm (.bool false) rfl rfl ?_
 iterate 3 refine Of 27 rfl rfl rfl rfl ?_
 refine Pu (.bool false) (PO.pickF rfl rfl rfl) rfl ?_
 refine Pm (.bool false) rfl rfl ?_
 iterate 3 refine Of 32 rfl rfl rfl rfl ?_
 refine Pu (.bool false) (PO.pickF rfl rfl rfl) rfl ?_
 refine Pa (.bool false) rfl rfl ?_
 refine WL.nil ?_
 obtain rfl := Option.some.inj h
 refine WQ.thenJ ?_
 exact ⟨hle34, rfl, rfl⟩
 rintro ρ30 M30 H30 ⟨hle30, rfl, hs30_8⟩
 have hE := hE.mono hle30
 refine WC.ret ?_
 exact WQ.returnsF h [] rfl (results1 rfl hs30_8) (hle26.trans hle30) ⟨rfl, rfl⟩

noncomputable def f_law04_FrameNext (a0 : (List Int)) : Option Bool :=
  (if (decide ((1500 : Int) < (a0.length : Int))) = true then ((f_law04_works).bind fun (r22 : Bool) => (some r22)) else ((f_frame_Next a0).bind fun (r27, r28, r29) => ((f_ref04_Next a0).bind fun (r37 : T_ref04_Found) => (((if (decide (r28 = r37.Size)) = true then (if (decide (r27.Kind = r37.F.Kind)) = true then ((f_ref02_Same r27.Body r37.F.Body).bind fun (r47 : Bool) => (if r47 = true then ((f_law04_wrong r29 r37.Code r37.Op r37.At).bind fun (r56 : Bool) => (if r56 = true then ((f_law04_works).bind fun (r62 : Bool) => (some r62)) else (some false))) else (some false))) else (some false)) else (some false)) : Option Bool).bind fun (x43 : Bool) => (some x43)))))
def f_law04_FrameNext_post (a0 : (List Int)) (v0 : Value) : Bool → Value → IM → HL → Prop :=
  fun (r0 : Bool) (v : Value) (M' : IM) (H' : HL) => (.bool r0) = v ∧ H' = []
theorem f_law04_FrameNext_ok (a0 : (List Int)) (M : IM) (v0 : Value) (h0 : RS (Kd.int .u8) M v0 a0) (hE : Env M) (res : Bool) (h : f_law04_FrameNext a0 = some res) :
    Tri Tryd.prog 6 #[v0] M [] (f_law04_FrameNext_post a0 v0 res) := by
 unfold f_law04_FrameNext at h
 refine Tri.enter (fn := Tryd.f6) Tryd.func6 rfl (Nat.le_of_ble_eq_true rfl) ?_
 intro F ρ hρ
 refine Sr ?_
 refine Pa (.bool false) rfl rfl ?_
 refine Nt ?_
 refine WC.seq ?_
 refine Sr ?_
 refine Pm v0 (hρ 0) rfl ?_
 refine Pu (.int .i64 (a0.length : Int)) (PO.lenS Tryd.underlying26 rfl h0.len) rfl ?_
 refine Pu (.bool (decide ((1500 : Int) < (a0.length : Int)))) (PO.gtr rfl rfl) rfl ?_
 refine Nt ?_
 refine WC.cond (b := decide ((1500 : Int) < (a0.length : Int))) rfl (fun hb21 => ?_) (fun hb21 => ?_)
 have h := ite_t hb21 h
 refine Sr ?_
 obtain ⟨r22, hr23, h⟩ := bnd h
 refine WL.eff (EO.call0 co11 (f_law04_works_ok _ hE r22 hr23) (args0)) rfl ?_
 rintro _ M24 _ hle25 ⟨_, ⟨rfl, rfl⟩, rfl⟩
 have h0 := h0.mono hle25
 have hE := hE.mono hle25
 refine WL.a0 ?_
 refine Pa (.bool r22) rfl rfl ?_
 refine Nt ?_
 refine WC.ret ?_
 refine WQ.thenR ?_
 exact WQ.returnsF h [] rfl (results1 rfl rfl) hle25 ⟨rfl, rfl⟩
 have h := ite_f hb21 h
 refine WC.skip ?_
 refine WQ.thenC ?_
 refine Sr ?_
 refine Pm v0 (hρ 0) rfl ?_
 obtain ⟨⟨r27, r28, r29⟩, hr30, h⟩ := bnd h
 refine WL.eff (EO.call0 co18 (f_frame_Next_ok a0 _ _ h0 hE (r27, r28, r29) hr30) (args1 rfl)) rfl ?_
 rintro _ M31 _ hle32 ⟨_, ⟨vq33_1, cq33_1, rfl, rfl, hq33_1⟩, rfl⟩
 have h0 := h0.mono hle32
 have hE := hE.mono hle32
 refine WL.a1 ?_
 refine Pm (.tuple #[(.agg #[(.int .i64 r27.Kind), vq33_1]), (.int .i64 r28), (GV r29)]) rfl rfl ?_
 refine Pu (.agg #[(.int .i64 r27.Kind), vq33_1]) (PO.extract rfl rfl) rfl ?_
 refine Pu (.int .i64 r28) (PO.extract rfl rfl) rfl ?_
 refine Pu (GV r29) (PO.extract rfl rfl) rfl ?_
 refine WL.eff (EO.alloc ze40 rfl) rfl ?_
 rintro _ _ _ - ⟨rfl, g36, rfl, rfl⟩
 refine WL.eff (EO.storeL (v := (.agg #[(.int .i64 r27.Kind), vq33_1])) (vl := [(.int .i64 r27.Kind), vq33_1]) (arr' := [(.int .i64 r27.Kind), vq33_1]) rfl sz40 rfl rfl (onesOf (Ones.cons rfl (Ones.cons (OwnS.one hq33_1) Ones.nil))) rfl rfl rfl) rfl ?_
 rintro _ _ _ - ⟨rfl, rfl⟩
 refine Pa (.int .i64 r28) rfl rfl ?_
 refine Pa (GV r29) rfl rfl ?_
 refine Ns ?_
 refine Pm v0 (hρ 0) rfl ?_
 obtain ⟨r37, hr38, h⟩ := bnd h
 refine WL.eff (EO.call0 co23 (f_ref04_Next_ok a0 _ _ h0 r37 hr38) (args1 rfl)) rfl ?_
 rintro _ M39 _ hle40 ⟨_, ⟨vq41_0_1, rfl, rfl, hq41_0_1⟩, rfl⟩
 have h0 := h0.mono hle40
 have hq33_1 := hq33_1.mono hle40
 have hE := hE.mono hle40
 refine WL.a0 ?_
 refine WL.eff (EO.alloc ze55 rfl) rfl ?_
 rintro _ _ _ - ⟨rfl, g42, rfl, rfl⟩
 refine WL.eff (EO.storeL (v := (a55_ r37 vq41_0_1)) (vl := (l55 r37 vq41_0_1)) (arr' := (l55 r37 vq41_0_1)) rfl sz55 rfl rfl (onesOf (Ones.cons rfl (Ones.cons (RS.one hq41_0_1) (Ones.cons rfl (Ones.cons rfl (Ones.cons rfl (Ones.cons rfl Ones.nil))))))) rfl rfl rfl) rfl ?_
 rintro _ _ _ - ⟨rfl, rfl⟩
 refine Nt ?_
 obtain ⟨x43, hj44, h⟩ := bnd h
 refine WC.joinF (fun (x43 : Bool) ρ' M' H' => M39.le M' ∧ [(g42, .cells (l55 r37 vq41_0_1).toArray 55 (0, 0))] :: [(g36, .cells #[(.int .i64 r27.Kind), vq33_1] 40 (0, 0))] :: cq33_1 :: F = H' ∧ ρ' 2 = (.bool x43)) x43 ?_ ?_
 have h344 := h
 have h := hj44
 refine WC.region ?_
 refine Pm (.int .i64 r28) rfl rfl ?_
 refine Pu (pt g42 2) (PO.fieldAddr fo55_1 rfl rfl) rfl ?_
 refine Pu (.int .i64 r37.Size) (PO.loadB 0 pl3 rfl rfl rfl) rfl ?_
 refine Pu (.bool (decide (r28 = r37.Size))) (PO.eql rfl rfl) rfl ?_
 refine Pm (.bool (decide (r28 = r37.Size))) rfl rfl ?_
 rcases Bool.eq_false_or_eq_true (decide (r28 = r37.Size)) with hb45 | hb45
 have h := ite_t hb45 h
 refine On 23 rfl rfl hb45 ?_
 refine Pu (pt g36 0) (PO.fieldAddr fo40_0 rfl rfl) rfl ?_
 refine On 23 rfl rfl hb45 ?_
 refine Pu (.int .i64 r27.Kind) (PO.loadB 1 pl3 rfl rfl rfl) rfl ?_
 refine On 23 rfl rfl hb45 ?_
 refine Pu (pt g42 0) (PO.fieldAddr fo55_0 rfl rfl) rfl ?_
 refine On 23 rfl rfl hb45 ?_
 refine Pu (pt g42 0) (PO.fieldAddr fo40_0 rfl rfl) rfl ?_
 refine On 23 rfl rfl hb45 ?_
 refine Pu (.int .i64 r37.F.Kind) (PO.loadB 0 pl3 rfl rfl rfl) rfl ?_
 refine On 23 rfl rfl hb45 ?_
 refine Pu (.bool (decide (r27.Kind = r37.F.Kind))) (PO.eql rfl rfl) rfl ?_
 refine Pu (.bool (decide (r27.Kind = r37.F.Kind))) (PO.pickT rfl hb45 rfl) rfl ?_
 refine Pm (.bool (decide (r27.Kind = r37.F.Kind))) rfl rfl ?_
 rcases Bool.eq_false_or_eq_true (decide (r27.Kind = r37.F.Kind)) with hb46 | hb46
 have h := ite_t hb46 h
 refine On 31 rfl rfl hb46 ?_
 refine Pu (pt g36 1) (PO.fieldAddr fo40_1 rfl rfl) rfl ?_
 refine On 31 rfl rfl hb46 ?_
 refine Pu vq33_1 (PO.loadB 1 pl26 rfl rfl rfl) rfl ?_
 refine On 31 rfl rfl hb46 ?_
 refine Pu (pt g42 0) (PO.fieldAddr fo55_0 rfl rfl) rfl ?_
 refine On 31 rfl rfl hb46 ?_
 refine Pu (pt g42 1) (PO.fieldAddr fo40_1 rfl rfl) rfl ?_
 refine On 31 rfl rfl hb46 ?_
 refine Pu vq41_0_1 (PO.loadB 0 pl26 rfl rfl rfl) rfl ?_
 refine On 31 rfl rfl hb46 ?_
 obtain ⟨r47, hr48, h⟩ := bnd h
 refine WL.f2 ?_
 refine WL.eff (EO.call1 co19 (Tri.lend hq33_1.excl fun w0_ H0_ hs0_ => (f_ref02_Same_ok r27.Body r37.F.Body _ _ _ (hq33_1.rs hs0_) (hq41_0_1.mono (IM.le_add _ _)) r47 hr48)) (args2 rfl rfl)) rfl ?_
 rintro _ _ _ hle50 ⟨_, ⟨Ml52, Hl53, hll54, rfl, rfl, ⟨rfl, rfl⟩⟩, rfl⟩
 have hq33_1 := hq33_1.mono hle50
 have hq41_0_1 := hq41_0_1.mono hle50
 have hE := hE.mono hle50
 refine WL.a1 ?_
 refine Pu (.bool r47) (PO.pickT rfl hb46 rfl) rfl ?_
 refine Pm (.bool r47) rfl rfl ?_
 rcases Bool.eq_false_or_eq_true (r47) with hb55 | hb55
 have h := ite_t hb55 h
 refine On 39 rfl rfl hb55 ?_
 refine Pm (GV r29) rfl rfl ?_
 refine On 39 rfl rfl hb55 ?_
 refine Pu (pt g42 3) (PO.fieldAddr fo55_2 rfl rfl) rfl ?_
 refine On 39 rfl rfl hb55 ?_
 refine Pu (.int .i64 r37.Code) (PO.loadB 1 pl47 rfl rfl rfl) rfl ?_
 refine On 39 rfl rfl hb55 ?_
 refine Pu (pt g42 4) (PO.fieldAddr fo55_3 rfl rfl) rfl ?_
 refine On 39 rfl rfl hb55 ?_
 refine Pu (.string r37.Op) (PO.loadB 1 pl9 rfl rfl rfl) rfl ?_
 refine On 39 rfl rfl hb55 ?_
 refine Pu (pt g42 5) (PO.fieldAddr fo55_4 rfl rfl) rfl ?_
 refine On 39 rfl rfl hb55 ?_
 refine Pu (.int .i64 r37.At) (PO.loadB 1 pl3 rfl rfl rfl) rfl ?_
 refine On 39 rfl rfl hb55 ?_
 obtain ⟨r56, hr57, h⟩ := bnd h
 refine WL.eff (EO.call0 co24 (f_law04_wrong_ok r29 r37.Code r37.Op r37.At _ hE r56 hr57) (args4 rfl rfl rfl rfl)) rfl ?_
 rintro _ M58 _ hle59 ⟨_, ⟨rfl, rfl⟩, rfl⟩
 have hq33_1 := hq33_1.mono hle59
 have hq41_0_1 := hq41_0_1.mono hle59
 have hE := hE.mono hle59
 refine WL.a0 ?_
 refine Pu (.bool r56) (PO.pickT rfl hb55 rfl) rfl ?_
 refine Pm (.bool r56) rfl rfl ?_
 rcases Bool.eq_false_or_eq_true (r56) with hb61 | hb61
 have h := ite_t hb61 h
 refine On 49 rfl rfl hb61 ?_
 obtain ⟨r62, hr63, h⟩ := bnd h
 refine WL.eff (EO.call0 co11 (f_law04_works_ok _ hE r62 hr63) (args0)) rfl ?_
 rintro _ M64 _ hle65 ⟨_, ⟨rfl, rfl⟩, rfl⟩
 have hq33_1 := hq33_1.mono hle65
 have hq41_0_1 := hq41_0_1.mono hle65
 have hE := hE.mono hle65
 refine WL.a0 ?_
 refine Pu (.bool r62) (PO.pickT rfl hb61 rfl) rfl ?_
 refine Pa (.bool r62) rfl rfl ?_
 refine WL.nil ?_
 refine WQ.f2 ?_
 refine WQ.f2 ?_
 obtain rfl := Option.some.inj h
 refine WQ.thenJ ?_
 exact ⟨((hle50.trans hle59).trans hle65), rfl, rfl⟩
 have h := ite_f hb61 h
 refine Of 49 rfl rfl hb61 rfl ?_
 refine Pu (.bool false) (PO.pickF rfl hb61 rfl) rfl ?_
 refine Pa (.bool false) rfl rfl ?_
 refine WL.nil ?_
 refine WQ.f2 ?_
 refine WQ.f2 ?_
 obtain rfl := Option.some.inj h
 refine WQ.thenJ ?_
 exact ⟨(hle50.trans hle59), rfl, rfl⟩
 have h := ite_f hb55 h
 iterate 8 refine Of 39 rfl rfl hb55 rfl ?_
 refine Pu (.bool false) (PO.pickF rfl hb55 rfl) rfl ?_
 refine Pm (.bool false) rfl rfl ?_
 refine Of 49 rfl rfl rfl rfl ?_
 refine Pu (.bool false) (PO.pickF rfl rfl rfl) rfl ?_
 refine Pa (.bool false) rfl rfl ?_
 refine WL.nil ?_
 refine WQ.f2 ?_
 refine WQ.f2 ?_
 obtain rfl := Option.some.inj h
 refine WQ.thenJ ?_
 exact ⟨hle50, rfl, rfl⟩
 have h := ite_f hb46 h
 iterate 6 refine Of 31 rfl rfl hb46 rfl ?_
 refine Pu (.bool false) (PO.pickF rfl hb46 rfl) rfl ?_
 refine Pm (.bool false) rfl rfl ?_
 iterate 8 refine Of 39 rfl rfl rfl rfl ?_
 refine Pu (.bool false) (PO.pickF rfl rfl rfl) rfl ?_
 refine Pm (.bool false) rfl rfl ?_
 refine Of 49 rfl rfl rfl rfl ?_
 refine Pu (.bool false) (PO.pickF rfl rfl rfl) rfl ?_
 refine Pa (.bool false) rfl rfl ?_
 refine WL.nil ?_
 obtain rfl := Option.some.inj h
 refine WQ.thenJ ?_
 exact ⟨(IM.le.refl _), rfl, rfl⟩
 have h := ite_f hb45 h
 iterate 6 refine Of 23 rfl rfl hb45 rfl ?_
 refine Pu (.bool false) (PO.pickF rfl hb45 rfl) rfl ?_
 refine Pm (.bool false) rfl rfl ?_
 iterate 6 refine Of 31 rfl rfl rfl rfl ?_
 refine Pu (.bool false) (PO.pickF rfl rfl rfl) rfl ?_
 refine Pm (.bool false) rfl rfl ?_
 iterate 8 refine Of 39 rfl rfl rfl rfl ?_
 refine Pu (.bool false) (PO.pickF rfl rfl rfl) rfl ?_
 refine Pm (.bool false) rfl rfl ?_
 refine Of 49 rfl rfl rfl rfl ?_
 refine Pu (.bool false) (PO.pickF rfl rfl rfl) rfl ?_
 refine Pa (.bool false) rfl rfl ?_
 refine WL.nil ?_
 obtain rfl := Option.some.inj h
 refine WQ.thenJ ?_
 exact ⟨(IM.le.refl _), rfl, rfl⟩
 rintro ρ44 M44 H44 ⟨hle44, rfl, hs44_2⟩
 have hq41_0_1 := hq41_0_1.mono hle44
 have hq33_1 := hq33_1.mono hle44
 have hE := hE.mono hle44
 refine WC.ret ?_
 refine WQ.drop ?_
 refine WQ.drop ?_
 refine WQ.drop ?_
 exact WQ.returnsF h [] rfl (results1 rfl hs44_2) ((hle32.trans hle40).trans hle44) ⟨rfl, rfl⟩


end Go.Proofs.YtjiffdgidodebaaDoor.G
