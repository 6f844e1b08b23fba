/- Go functions: what they come to, and that they do. Printed by a program of the session (gen). -/
import Derived.Test.YtjiffdgidodebaaGreatDoorPF
import Derived.Test.YtjiffdgidodebaaGreatDoorP15
import Derived.Test.YtjiffdgidodebaaGreatDoorKShar2
import Derived.Test.YtjiffdgidodebaaGreatDoorKConv
set_option linter.unusedVariables false
set_option linter.unusedSimpArgs false
set_option maxHeartbeats 8000000
set_option maxRecDepth 100000
namespace Go.Proofs.YtjiffdgidodebaaGreatDoor.G
open Go Go.KK

noncomputable def f_ref06_Put (a0 : T_api_Batch) : Option ((List Int) × T_ref06_Wrong) :=
  ((f_ref06_Check a0).bind fun (r23 : T_ref06_Wrong) => (if (decide (r23.W.Code ≠ (0 : Int))) = true then (some ([], r23)) else ((f_ref06_Bytes a0).bind fun (r31 : (List Int)) => (if (decide ((16384 : Int) < (r31.length : Int))) = true then (some ([], (⟨(⟨(⟨#[98, 97, 116, 99, 104]⟩ : ByteArray), (r31.length : Int), (6 : Int)⟩ : T_ref05_Wrong), (-1 : Int)⟩ : T_ref06_Wrong))) else (some (r31, (⟨(⟨(⟨#[]⟩ : ByteArray), (0 : Int), (0 : Int)⟩ : T_ref05_Wrong), (-1 : Int)⟩ : T_ref06_Wrong)))))))
def f_ref06_Put_post (a0 : T_api_Batch) (v0_2 : Value) : ((List Int) × T_ref06_Wrong) → Value → IM → HL → Prop :=
  fun (p_ : ((List Int) × T_ref06_Wrong)) (v : Value) (M' : IM) (H' : HL) => match p_ with | (r0, r1) => ∃ vz0 cz0, (.tuple #[vz0, (.agg #[(.string r1.W.Op), (.int .i64 r1.W.At), (.int .i64 r1.W.Code), (.int .i64 r1.Record)])]) = v ∧ H' = [cz0] ∧ OwnS (Kd.int .u8) M' vz0 r0 cz0
theorem f_ref06_Put_ok (a0 : T_api_Batch) (M : IM) (v0_2 : Value) (h0_2 : RS kd_api_Record M v0_2 a0.Records) (res : ((List Int) × T_ref06_Wrong)) (h : f_ref06_Put a0 = some res) :
    Tri Tryz.prog 16 #[(a24_ a0 v0_2)] M [] (f_ref06_Put_post a0 v0_2 res) := by
 unfold f_ref06_Put at h
 refine Tri.enter (fn := Tryz.f16) Tryz.func16 rfl (Nat.le_of_ble_eq_true rfl) ?_
 intro F ρ hρ
 refine Sr ?_
 refine WL.eff (EO.box (cs := (l24 a0 v0_2).toArray) (congrArg Value.cells (asE (a24_ a0 v0_2) (hρ 0)))) rfl ?_
 rintro _ _ _ - ⟨rfl, g21, rfl, rfl⟩
 refine Pa (.slice none 0 0) rfl rfl ?_
 refine WL.eff (EO.alloc ze35 rfl) rfl ?_
 rintro _ _ _ - ⟨rfl, g22, rfl, rfl⟩
 refine Nt ?_
 refine WC.seq ?_
 refine Sr ?_
 refine Pu (a24_ a0 v0_2) (PO.loadBA (cs := (l24 a0 v0_2)) 1 ag24 sz24 rfl rfl rfl) rfl ?_
 obtain ⟨r23, hr24, h⟩ := bnd h
 refine WL.eff (EO.call0 co10 (f_ref06_Check_ok a0 _ _ h0_2 r23 hr24) (args1 rfl)) rfl ?_
 rintro _ M25 _ hle26 ⟨_, ⟨rfl, rfl⟩, rfl⟩
 have h0_2 := h0_2.mono hle26
 refine WL.a0 ?_
 refine WL.eff (EO.alloc ze35 rfl) rfl ?_
 rintro _ _ _ - ⟨rfl, g28, rfl, rfl⟩
 refine WL.eff (EO.storeL (v := (a35_ r23)) (vl := (l35 r23)) (arr' := (l35 r23)) rfl sz35 rfl rfl (onesOf (Ones.cons rfl (Ones.cons rfl (Ones.cons rfl (Ones.cons rfl Ones.nil))))) rfl rfl rfl) rfl ?_
 rintro _ _ _ - ⟨rfl, rfl⟩
 refine Ns ?_
 refine Pu (pt g28 0) (PO.fieldAddr fo35_0 rfl rfl) rfl ?_
 refine Pu (pt g28 2) (PO.fieldAddr fo33_2 rfl rfl) rfl ?_
 refine Pu (.int .i64 r23.W.Code) (PO.loadB 0 pl31 rfl rfl rfl) rfl ?_
 refine Pu (.bool (decide (r23.W.Code ≠ 0))) (PO.neq rfl rfl) rfl ?_
 refine Nt ?_
 refine WC.cond (b := decide (r23.W.Code ≠ 0)) rfl (fun hb29 => ?_) (fun hb29 => ?_)
 have h := ite_t hb29 h
 refine WC.seq ?_
 refine WC.draw [0, 0, 3] (.pure 0 (.pure 1 (.alt 2 .done .none))) mixed (by kernel_rfl) ?_
 refine Tp (a35_ r23) rfl (PO.loadBA (cs := (l35 r23)) 0 ag35 sz35 rfl rfl rfl) rfl ?_
 refine Tp (.slice none 0 0) rfl (PO.assign rfl) rfl ?_
 refine WT.f1 ?_
 refine WT.alt rfl (EO.storeL (v := (a35_ r23)) (vl := (l35 r23)) (arr' := (l35 r23)) rfl sz35 rfl rfl (onesOf (Ones.cons rfl (Ones.cons rfl (Ones.cons rfl (Ones.cons rfl Ones.nil))))) rfl rfl rfl) rfl ?_ ?_
 rintro _ _ _ - ⟨rfl, rfl⟩
 refine ⟨(StabL.anc rfl (StabL.anc rfl trivial)), ?_⟩
 refine WT.fin ?_
 refine WQ.thenC ?_
 refine WC.ret ?_
 refine WQ.thenR ?_
 refine WQ.e0 ?_
 refine WQ.f2 ?_
 refine WQ.drop ?_
 refine WQ.f2 ?_
 refine WQ.drop ?_
 refine WQ.f1 ?_
 exact WQ.returnsD h [[]] (fun _ hs => hs.drop) (resultsLN rfl (RVs.cons (RV.tmp rfl) (RVs.cons (RV.cellA (cs := (l35 r23)) 0 ag35 sz35 rfl rfl rfl) RVs.nil))) hle26 ⟨(.slice none 0 0), [], rfl, rfl, (OwnS.nil _ _)⟩
 exact WT.no
 have h := ite_f hb29 h
 refine WC.skip ?_
 refine WQ.thenC ?_
 refine Sr ?_
 refine Pu (a24_ a0 v0_2) (PO.loadBA (cs := (l24 a0 v0_2)) 2 ag24 sz24 rfl rfl rfl) rfl ?_
 obtain ⟨r31, hr32, h⟩ := bnd h
 refine WL.eff (EO.call0 co41 (f_ref06_Bytes_ok a0 _ _ h0_2 r31 hr32) (args1 rfl)) rfl ?_
 rintro _ M33 _ hle34 ⟨_, ⟨vq35, cq35, rfl, rfl, hq35⟩, rfl⟩
 have h0_2 := h0_2.mono hle34
 refine WL.a1 ?_
 refine Pa vq35 rfl rfl ?_
 refine Nt ?_
 refine WC.seq ?_
 refine Sr ?_
 refine Pm vq35 rfl rfl ?_
 refine Pu (.int .i64 (r31.length : Int)) (PO.lenS Tryz.underlying40 rfl hq35.len) rfl ?_
 refine Pu (.bool (decide ((16384 : Int) < (r31.length : Int)))) (PO.gtr rfl rfl) rfl ?_
 refine Nt ?_
 refine WC.cond (b := decide ((16384 : Int) < (r31.length : Int))) rfl (fun hb36 => ?_) (fun hb36 => ?_)
 have h := ite_t hb36 h
 refine Sr ?_
 refine Pm vq35 rfl rfl ?_
 refine Pu (.int .i64 (r31.length : Int)) (PO.lenS Tryz.underlying40 rfl hq35.len) rfl ?_
 refine Pu (.agg #[(.string ⟨#[98, 97, 116, 99, 104]⟩), (.int .i64 (r31.length : Int)), (.int .i64 6)]) (PO.buildL (cl := [(.string ⟨#[98, 97, 116, 99, 104]⟩), (.int .i64 (r31.length : Int)), (.int .i64 6)]) ze33 fp33 (Parts.cons (congrArg Value.cells (show ev _ _ = (.string ⟨#[98, 97, 116, 99, 104]⟩) from rfl)) (Parts.cons (congrArg Value.cells (show ev _ _ = (.int .i64 (r31.length : Int)) from rfl)) (Parts.cons (congrArg Value.cells (show ev _ _ = (.int .i64 6) from rfl)) Parts.nil))) rfl) rfl ?_
 refine Pu (.agg #[(.string ⟨#[98, 97, 116, 99, 104]⟩), (.int .i64 (r31.length : Int)), (.int .i64 6), (.int .i64 (-1 : Int))]) (PO.buildL (cl := [(.string ⟨#[98, 97, 116, 99, 104]⟩), (.int .i64 (r31.length : Int)), (.int .i64 6), (.int .i64 (-1 : Int))]) ze35 fp35 (Parts.cons (congrArg Value.cells (show ev _ _ = (.agg #[(.string ⟨#[98, 97, 116, 99, 104]⟩), (.int .i64 (r31.length : Int)), (.int .i64 6)]) from rfl)) (Parts.cons (congrArg Value.cells (show ev _ _ = (.int .i64 (-1 : Int)) from rfl)) Parts.nil)) rfl) rfl ?_
 refine Pa (.slice none 0 0) rfl rfl ?_
 refine WL.f2 ?_
 refine WL.eff (EO.storeL (v := (.agg #[(.string ⟨#[98, 97, 116, 99, 104]⟩), (.int .i64 (r31.length : Int)), (.int .i64 6), (.int .i64 (-1 : Int))])) (vl := [(.string ⟨#[98, 97, 116, 99, 104]⟩), (.int .i64 (r31.length : Int)), (.int .i64 6), (.int .i64 (-1 : Int))]) (arr' := [(.string ⟨#[98, 97, 116, 99, 104]⟩), (.int .i64 (r31.length : Int)), (.int .i64 6), (.int .i64 (-1 : Int))]) rfl sz35 rfl rfl (onesOf (Ones.cons rfl (Ones.cons rfl (Ones.cons rfl (Ones.cons rfl Ones.nil))))) rfl rfl rfl) rfl ?_
 rintro _ _ _ - ⟨rfl, rfl⟩
 refine Nt ?_
 refine WC.ret ?_
 refine WQ.thenR ?_
 refine WQ.e0 ?_
 refine WQ.f2 ?_
 refine WQ.drop ?_
 refine WQ.f2 ?_
 refine WQ.drop ?_
 refine WQ.f2 ?_
 refine WQ.drop ?_
 refine WQ.f1 ?_
 exact WQ.returnsD h [[]] (fun _ hs => hs.drop) (resultsLN rfl (RVs.cons (RV.tmp rfl) (RVs.cons (RV.cellA (cs := [(.string ⟨#[98, 97, 116, 99, 104]⟩), (.int .i64 (r31.length : Int)), (.int .i64 6), (.int .i64 (-1 : Int))]) 0 ag35 sz35 rfl rfl rfl) RVs.nil))) (hle26.trans hle34) ⟨(.slice none 0 0), [], rfl, rfl, (OwnS.nil _ _)⟩
 have h := ite_f hb36 h
 refine WC.skip ?_
 refine WQ.thenC ?_
 refine Sr ?_
 refine Pm vq35 rfl rfl ?_
 refine Pu (.agg #[(.string ⟨#[]⟩), (.int .i64 0), (.int .i64 0), (.int .i64 (-1 : Int))]) (PO.buildL (cl := [(.string ⟨#[]⟩), (.int .i64 0), (.int .i64 0), (.int .i64 (-1 : Int))]) ze35 fp35 (Parts.cons (congrArg Value.cells (show ev _ _ = (.int .i64 (-1 : Int)) from rfl)) Parts.nil) rfl) rfl ?_
 refine Pa vq35 rfl rfl ?_
 refine WL.f2 ?_
 refine WL.eff (EO.storeL (v := (.agg #[(.string ⟨#[]⟩), (.int .i64 0), (.int .i64 0), (.int .i64 (-1 : Int))])) (vl := [(.string ⟨#[]⟩), (.int .i64 0), (.int .i64 0), (.int .i64 (-1 : Int))]) (arr' := [(.string ⟨#[]⟩), (.int .i64 0), (.int .i64 0), (.int .i64 (-1 : Int))]) rfl sz35 rfl rfl (onesOf (Ones.cons rfl (Ones.cons rfl (Ones.cons rfl (Ones.cons rfl Ones.nil))))) rfl rfl rfl) rfl ?_
 rintro _ _ _ - ⟨rfl, rfl⟩
 refine Nt ?_
 refine WC.ret ?_
 refine WQ.f2 ?_
 refine WQ.drop ?_
 refine WQ.f2 ?_
 refine WQ.drop ?_
 exact WQ.returnsD h [cq35] (fun _ hs => hs.drop) (resultsLN rfl (RVs.cons (RV.tmp rfl) (RVs.cons (RV.cellA (cs := [(.string ⟨#[]⟩), (.int .i64 0), (.int .i64 0), (.int .i64 (-1 : Int))]) 0 ag35 sz35 rfl rfl rfl) RVs.nil))) (hle26.trans hle34) ⟨vq35, cq35, rfl, rfl, hq35⟩

noncomputable def f_ref02_Same_l0 (a0 : (List Int)) (a1 : (List Int)) (s_ : Int) : Option (Int ⊕ (Unit ⊕ Unit)) :=
  match s_ with
  | x24 =>
    (if (decide (x24 < (a0.length : Int))) = true then (grd (0 ≤ x24 ∧ x24 < a0.length) (grd (0 ≤ x24 ∧ x24 < a1.length) (if (decide ((rd a0 x24) ≠ (rd a1 x24))) = true then (some (Sum.inr (Sum.inr ()))) else (some (Sum.inl (IntKind.i64.wrap (x24 + (1 : Int)))))))) else (some (Sum.inr (Sum.inl ()))))
noncomputable def f_ref02_Same (a0 : (List Int)) (a1 : (List Int)) : Option Bool :=
  (if (decide ((a0.length : Int) ≠ (a1.length : Int))) = true then (some false) else ((((iter (f_ref02_Same_l0 a0 a1) (0 : Int)).bind (Sum.elim (fun _ => (some (Sum.inl ()))) (fun _ => (((some false)).bind fun r => some (Sum.inr r))))) : Option (Unit ⊕ Bool)).bind (Sum.elim (fun _ => (some true)) some)))
def f_ref02_Same_post (a0 : (List Int)) (a1 : (List Int)) (v0 v1 : Value) : Bool → Value → IM → HL → Prop :=
  fun (r0 : Bool) (v : Value) (M' : IM) (H' : HL) => (.bool r0) = v ∧ H' = []
theorem f_ref02_Same_ok (a0 : (List Int)) (a1 : (List Int)) (M : IM) (v0 v1 : Value) (h0 : RS (Kd.int .u8) M v0 a0) (h1 : RS (Kd.int .u8) M v1 a1) (res : Bool) (h : f_ref02_Same a0 a1 = some res) :
    Tri Tryz.prog 17 #[v0, v1] M [] (f_ref02_Same_post a0 a1 v0 v1 res) := by
 unfold f_ref02_Same at h
 refine Tri.enter (fn := Tryz.f17) Tryz.func17 rfl (Nat.le_of_ble_eq_true rfl) ?_
 intro F ρ hρ
 refine Sr ?_
 refine Pa (.bool false) rfl rfl ?_
 refine Nt ?_
 refine WC.seq ?_
 refine Sr ?_
 refine Pm v0 (hρ 0) rfl ?_
 refine Pu (.int .i64 (a0.length : Int)) (PO.lenS Tryz.underlying40 rfl h0.len) rfl ?_
 refine Pm v1 (hρ 1) rfl ?_
 refine Pu (.int .i64 (a1.length : Int)) (PO.lenS Tryz.underlying40 rfl h1.len) rfl ?_
 refine Pu (.bool (decide ((a0.length : Int) ≠ (a1.length : Int)))) (PO.neq rfl rfl) rfl ?_
 refine Nt ?_
 refine WC.cond (b := decide ((a0.length : Int) ≠ (a1.length : Int))) rfl (fun hb21 => ?_) (fun hb21 => ?_)
 have h := ite_t hb21 h
 refine Sr ?_
 refine Pa (.bool false) rfl rfl ?_
 refine Nt ?_
 refine WC.ret ?_
 refine WQ.thenR ?_
 exact WQ.returnsF h [] rfl (results1 rfl rfl) (IM.le.refl _) ⟨rfl, rfl⟩
 have h := ite_f hb21 h
 refine WC.skip ?_
 refine WQ.thenC ?_
 obtain ⟨j22, hj22, h⟩ := bnd h
 refine WC.joinE (fun (_ : Unit) ρ' M' H' => M.le M' ∧ F = H') j22 ?_ ?_
 have h322 := h
 have h := hj22
 refine Sr ?_
 refine Pa (.int .i64 0) rfl rfl ?_
 refine Nt ?_
 refine WC.block ?_
 obtain ⟨e23, he23, hK23⟩ := bnd h
 clear h
 refine WC.loop he23 (fun (x24 : Int) ρ' M' H' => M.le M' ∧ F = H' ∧ ρ' 0 = v0 ∧ ρ' 1 = v1 ∧ ρ' 5 = (.int .i64 x24)) ?_ ?_
 exact ⟨(IM.le.refl _), rfl, (hρ 0), (hρ 1), rfl⟩
 rintro x24 o23 ρ23 M23 H23 h ⟨hle23, rfl, hs23_0, hs23_1, hs23_5⟩
 unfold f_ref02_Same_l0 at h
 have h0 := h0.mono hle23
 have h1 := h1.mono hle23
 refine WC.seq ?_
 refine Sr ?_
 refine Pm (.int .i64 x24) hs23_5 rfl ?_
 refine Pm v0 hs23_0 rfl ?_
 refine Pu (.int .i64 (a0.length : Int)) (PO.lenS Tryz.underlying40 rfl h0.len) rfl ?_
 refine Pu (.bool (decide (x24 < (a0.length : Int)))) (PO.lss rfl rfl) rfl ?_
 refine Nt ?_
 refine WC.cond (b := decide (x24 < (a0.length : Int))) rfl (fun hb25 => ?_) (fun hb25 => ?_)
 have h := ite_t hb25 h
 refine WC.skip ?_
 refine WQ.thenC ?_
 refine WC.seq ?_
 refine WC.block ?_
 refine WC.seq ?_
 refine WC.draw [0, 0, 3, 7, 0, 0, 48, 112, 255] (.pure 0 (.pure 1 (.pure 2 (.pure 3 (.pure 4 (.pure 5 (.pure 6 (.pure 7 (.pure 8 .done))))))))) mixed (by kernel_rfl) ?_
 refine Tp v0 rfl (PO.move hs23_0) rfl ?_
 refine Tp (.int .i64 x24) rfl (PO.move hs23_5) rfl ?_
 obtain ⟨hg26, h⟩ := grd_i h
 obtain ⟨p27, cs28, hat29, hrc30, hhas31⟩ := h0.at hg26.1 hg26.2 (by decide)
 obtain rfl := hrc30
 refine Tp (.pointer (some p27)) rfl (PO.indexAddr (n := a0.length) Tryz.underlying40 sz5 rfl rfl hg26.1 hg26.2 hat29) rfl ?_
 refine Tp (.int .u8 (rd a0 x24)) rfl (PO.loadM pl5 rfl (IM.has0 hhas31)) rfl ?_
 refine Tp v1 rfl (PO.move hs23_1) rfl ?_
 refine Tp (.int .i64 x24) rfl (PO.move hs23_5) rfl ?_
 obtain ⟨hg33, h⟩ := grd_i h
 obtain ⟨p34, cs35, hat36, hrc37, hhas38⟩ := h1.at hg33.1 hg33.2 (by decide)
 obtain rfl := hrc37
 refine Tp (.pointer (some p34)) rfl (PO.indexAddr (n := a1.length) Tryz.underlying40 sz5 rfl rfl hg33.1 hg33.2 hat36) rfl ?_
 refine Tp (.int .u8 (rd a1 x24)) rfl (PO.loadM pl5 rfl (IM.has0 hhas38)) rfl ?_
 refine Tp (.bool (decide ((rd a0 x24) ≠ (rd a1 x24)))) rfl (PO.neq rfl rfl) rfl ?_
 refine WT.fin ?_
 refine WQ.thenC ?_
 refine WC.cond (b := decide ((rd a0 x24) ≠ (rd a1 x24))) rfl (fun hb40 => ?_) (fun hb40 => ?_)
 have h := ite_t hb40 h
 refine Sr ?_
 refine Pa (.bool false) rfl rfl ?_
 refine Nt ?_
 refine WC.ret ?_
 refine WQ.blockR ?_
 refine WQ.thenR ?_
 refine WQ.leaveR (Sum.inr ()) (Option.some.inj h).symm (fun heq23 => ?_)
 subst heq23
 have h := (elimR hK23)
 refine WQ.blockR ?_
 refine WQ.thenR ?_
 have h := KK.early h h322
 exact WQ.returnsF h [] rfl (results1 rfl rfl) hle23 ⟨rfl, rfl⟩
 have h := ite_f hb40 h
 refine WC.skip ?_
 refine WQ.blockN ?_
 refine WQ.thenC ?_
 refine WC.region ?_
 refine Pm (.int .i64 x24) hs23_5 rfl ?_
 refine Pu (.int .i64 (IntKind.i64.wrap (x24 + 1))) (PO.add rfl rfl) rfl ?_
 refine Pa (.int .i64 (IntKind.i64.wrap (x24 + 1))) rfl rfl ?_
 refine WL.nil ?_
 refine WQ.again (IntKind.i64.wrap (x24 + 1)) (Option.some.inj h).symm ?_
 exact ⟨hle23, rfl, hs23_0, hs23_1, rfl⟩
 have h := ite_f hb25 h
 refine WC.exit ?_
 refine WQ.thenE ?_
 refine WQ.leaveE (Sum.inl ()) (Option.some.inj h).symm (fun heq23 => ?_)
 subst heq23
 have h := elimL hK23
 refine WQ.blockH ?_
 refine WQ.thenFE h ?_
 exact ⟨hle23, rfl⟩
 rintro _ ρ22 M22 H22 rfl ⟨hle22, rfl⟩
 have h := (Sum.elim_inl _ _ _).symm.trans h
 refine Sr ?_
 refine Pa (.bool true) rfl rfl ?_
 refine Nt ?_
 refine WC.ret ?_
 exact WQ.returnsF h [] rfl (results1 rfl rfl) hle22 ⟨rfl, rfl⟩

noncomputable def f_errors_as_fault_l0 (a1 : T_api_Fault) (s_ : GErr) : Option (GErr ⊕ (Bool × ByteArray × Int × GErr)) :=
  match s_ with
  | x23 =>
    (match x23 with | .nil => none | .code n28 => (some (Sum.inr (false, a1.Op, a1.At, a1.Err))) | .fault o29 a30 e31 => (some (Sum.inr (true, o29, a30, e31))) | .other b32 => (some (Sum.inr (false, a1.Op, a1.At, a1.Err))))
noncomputable def f_errors_as_fault (a0 : GErr) (a1 : T_api_Fault) : Option (Bool × ByteArray × Int × GErr) :=
  ((iter (f_errors_as_fault_l0 a1) a0).bind (fun (x24, x25, x26, x27) => (some (x24, x25, x26, x27))))
def f_errors_as_fault_post (a0 : GErr) (a1 : T_api_Fault) (g1 g2 : Nat) : (Bool × ByteArray × Int × GErr) → Value → IM → HL → Prop :=
  fun (p_ : (Bool × ByteArray × Int × GErr)) (v : Value) (M' : IM) (H' : HL) => match p_ with | (r0, r1, r2, r3) => (.bool r0) = v ∧ H' = [[(g1, .cells #[(.string r1), (.int .i64 r2), (GV r3)] 94 (0, 0))], [(g2, .cells #[(.pointer (some ⟨g1, 0, none⟩))] 95 (0, 0))]]
theorem f_errors_as_fault_ok (a0 : GErr) (a1 : T_api_Fault) (M : IM) (g1 g2 : Nat) (res : (Bool × ByteArray × Int × GErr)) (h : f_errors_as_fault a0 a1 = some res) :
    Tri Tryz.prog 95 #[(GV a0), (.iface 95 (pt g1 0)), (.agg #[(pt 1 95), (pt g2 0), (.int .u64 150)]), (.iface 167 (.agg #[.pointer (some ⟨1, 94, none⟩)]))] M [[(g1, .cells (l94 a1).toArray 94 (0, 0))], [(g2, .cells #[(pt g1 0)] 95 (0, 0))]] (f_errors_as_fault_post a0 a1 g1 g2 res) := by
 unfold f_errors_as_fault at h
 refine Tri.enter (fn := Tryz.f95) Tryz.func95 rfl (Nat.le_of_ble_eq_true rfl) ?_
 intro F ρ hρ
 refine Sr ?_
 refine WL.eff (EO.box (cs := #[(pt 1 95), (pt g2 0), (.int .u64 150)]) (congrArg Value.cells (asE (.agg #[(pt 1 95), (pt g2 0), (.int .u64 150)]) (hρ 2)))) rfl ?_
 rintro _ _ _ - ⟨rfl, g21, rfl, rfl⟩
 refine Pa (.bool false) rfl rfl ?_
 refine Nt ?_
 refine WC.block ?_
 obtain ⟨e22, he22, hK22⟩ := bnd h
 clear h
 refine WC.loop he22 (fun (x23 : GErr) ρ' M' H' => M.le M' ∧ [(g21, .cells #[(pt 1 95), (pt g2 0), (.int .u64 150)] 139 (0, 0))] :: [(g1, .cells (l94 a1).toArray 94 (0, 0))] :: [(g2, .cells #[(pt g1 0)] 95 (0, 0))] :: F = H' ∧ ρ' 0 = (GV x23) ∧ ρ' 1 = (.iface 95 (pt g1 0)) ∧ ρ' 3 = (.iface 167 (.agg #[.pointer (some ⟨1, 94, none⟩)])) ∧ ρ' 6 = (pt g21 0)) ?_ ?_
 exact ⟨(IM.le.refl _), rfl, (hρ 0), (hρ 1), (hρ 3), rfl⟩
 rintro x23 o22 ρ22 M22 H22 h ⟨hle22, rfl, hs22_0, hs22_1, hs22_3, hs22_6⟩
 unfold f_errors_as_fault_l0 at h
 refine WC.block ?_
 refine WC.seq ?_
 refine Sr ?_
 refine Pm (GV x23) hs22_0 rfl ?_
 rcases x23 with _ | n28 | ⟨o29, a30, e31⟩ | b32
 refine WL.eff (EO.extP xt96 (args1 (show ev _ _ = .nilIface from rfl)) tyNil) rfl ?_
 rintro _ _ _ - ⟨rfl, rfl, rfl⟩
 refine Pm (.iface 167 (.agg #[.pointer (some ⟨1, 94, none⟩)])) hs22_3 rfl ?_
 exact nones h
 refine WL.eff (EO.extP xt96 (args1 (show ev _ _ = (.iface 31 (.int .i64 n28)) from rfl)) (ty31 _)) rfl ?_
 rintro _ _ _ - ⟨rfl, rfl, rfl⟩
 refine Pm (.iface 167 (.agg #[.pointer (some ⟨1, 94, none⟩)])) hs22_3 rfl ?_
 refine WL.eff (EO.invE (show ev _ _ = (.iface 167 (.agg #[.pointer (some ⟨1, 31, none⟩)])) from rfl) (mm_AssignableTo (pt 1 31)) xt147 (inv1 rfl) mr_AssignableTo_31_94) rfl ?_
 rintro _ _ _ - ⟨rfl, rfl, rfl⟩
 refine Nt ?_
 refine WC.condF (b := false) rfl rfl ?_
 refine WC.skip ?_
 refine WQ.thenC ?_
 refine WC.seq ?_
 refine Sr ?_
 refine Pm (GV (GErr.code n28)) hs22_0 rfl ?_
 refine Pu (.tuple #[.nilIface, (.bool false)]) (PO.asserts (show ev _ _ = (.iface 31 (.int .i64 n28)) from rfl) (la31_171 _ _)) rfl ?_
 refine Pm (.tuple #[.nilIface, (.bool false)]) rfl rfl ?_
 refine Pu .nilIface (PO.extract rfl rfl) rfl ?_
 refine Pu (.bool false) (PO.extract rfl rfl) rfl ?_
 refine Pa .nilIface rfl rfl ?_
 refine Pa (.bool false) rfl rfl ?_
 refine Ns ?_
 refine Pm (.bool false) rfl rfl ?_
 refine Pm (.bool false) rfl rfl ?_
 iterate 3 refine Of 31 rfl rfl rfl rfl ?_
 refine Pu (.bool false) (PO.pickF rfl rfl rfl) rfl ?_
 refine Nt ?_
 refine WC.condF (b := false) rfl rfl ?_
 refine WC.skip ?_
 refine WQ.thenC ?_
 refine Sr ?_
 refine Pm (GV (GErr.code n28)) hs22_0 rfl ?_
 refine Nt ?_
 refine WC.block ?_
 refine Sr ?_
 refine Pu (.tuple #[.nilIface, (.bool false)]) (PO.asserts (show ev _ _ = (.iface 31 (.int .i64 n28)) from rfl) (la31_174 _ _)) rfl ?_
 refine Pu (.bool false) (PO.extract rfl rfl) rfl ?_
 refine Pu .nilIface (PO.extract rfl rfl) rfl ?_
 refine Nt ?_
 refine WC.condF (b := false) rfl rfl ?_
 refine Sr ?_
 refine Pu (.tuple #[.nilIface, (.bool false)]) (PO.asserts (show ev _ _ = (.iface 31 (.int .i64 n28)) from rfl) (la31_175 _ _)) rfl ?_
 refine Pu (.bool false) (PO.extract rfl rfl) rfl ?_
 refine Pu .nilIface (PO.extract rfl rfl) rfl ?_
 refine Nt ?_
 refine WC.condF (b := false) rfl rfl ?_
 refine Sr ?_
 refine Pa (GV (GErr.code n28)) rfl rfl ?_
 refine Ns ?_
 refine Pa (.bool false) rfl rfl ?_
 refine Nt ?_
 refine WC.ret ?_
 refine WQ.blockR ?_
 refine WQ.blockR ?_
 refine WQ.leaveR (false, a1.Op, a1.At, a1.Err) (Option.some.inj h).symm (fun heq22 => ?_)
 subst heq22
 have h := hK22
 refine WQ.blockR ?_
 refine WQ.drop ?_
 exact WQ.returnsF h [[(g1, .cells (l94 a1).toArray 94 (0, 0))], [(g2, .cells #[(pt g1 0)] 95 (0, 0))]] rfl (results1 rfl rfl) hle22 ⟨rfl, rfl⟩
 refine WL.eff (EO.extP xt96 (args1 (show ev _ _ = (.iface 94 (.agg #[.string o29, .int .i64 a30, GV e31])) from rfl)) (ty94 _)) rfl ?_
 rintro _ _ _ - ⟨rfl, rfl, rfl⟩
 refine Pm (.iface 167 (.agg #[.pointer (some ⟨1, 94, none⟩)])) hs22_3 rfl ?_
 refine WL.eff (EO.invE (show ev _ _ = (.iface 167 (.agg #[.pointer (some ⟨1, 94, none⟩)])) from rfl) (mm_AssignableTo (pt 1 94)) xt147 (inv1 rfl) mr_AssignableTo_94_94) rfl ?_
 rintro _ _ _ - ⟨rfl, rfl, rfl⟩
 refine Nt ?_
 refine WC.condT (b := true) rfl rfl ?_
 refine Sr ?_
 refine Pu (.agg #[(pt 1 95), (pt g2 0), (.int .u64 150)]) (PO.loadBA (cs := [(pt 1 95), (pt g2 0), (.int .u64 150)]) 0 ag139 sz139 hs22_6 rfl rfl) rfl ?_
 refine WL.eff (EO.rvElem (r := fun p => .agg #[(pt 1 94), .pointer (some p), .int .u64 409]) 2 xt116 pp95_150 rfl pl95 el95 mk94 (args1 (show ev _ _ = (.agg #[(pt 1 95), (pt g2 0), (.int .u64 150)]) from rfl)) rfl) rfl ?_
 rintro _ _ _ - ⟨rfl, rfl, rfl⟩
 refine Pm (GV (GErr.fault o29 a30 e31)) hs22_0 rfl ?_
 refine WL.eff (EO.valueOf xt92 (args1 (show ev _ _ = (.iface 94 (.agg #[.string o29, .int .i64 a30, GV e31])) from rfl)) (vo94 o29 a30 (GV e31))) rfl ?_
 rintro _ _ _ - ⟨rfl, g33, rfl, rfl⟩
 refine WL.f2 ?_
 refine WL.eff (EO.rvSet (arr := (l94 a1)) (vl := [(.string o29), (.int .i64 a30), (GV e31)]) (v := (.agg #[(.string o29), (.int .i64 a30), (GV e31)])) xt117 pp94_409 pp94_153 rfl da94 (args2 (show ev _ _ = (.agg #[(pt 1 94), (pt g1 0), (.int .u64 409)]) from rfl) (show ev _ _ = (.agg #[(pt 1 94), (pt g33 0), (.int .u64 153)]) from rfl)) (fun _ hs => run_loadAgg (cs := [(.string o29), (.int .i64 a30), (GV e31)]) ag94 sz94 (fun i v hi => by rw [add_lit]; exact hs.cellC 1 rfl (chunkCell_lit.trans (by simpa using hi)))) rfl sz94 rfl (onesOf (Ones.cons rfl (Ones.cons rfl (Ones.cons (GErr.val_one _ _ _ _) Ones.nil))))) rfl ?_
 rintro _ _ _ - ⟨rfl, rfl, rfl⟩
 refine Ns ?_
 refine Pa (.bool true) rfl rfl ?_
 refine Nt ?_
 refine WC.ret ?_
 refine WQ.thenR ?_
 refine WQ.blockR ?_
 refine WQ.leaveR (true, o29, a30, e31) (Option.some.inj h).symm (fun heq22 => ?_)
 subst heq22
 have h := hK22
 refine WQ.blockR ?_
 refine WQ.f1 ?_
 refine WQ.drop ?_
 refine WQ.f1 ?_
 refine WQ.drop ?_
 exact WQ.returnsF h [[(g1, .cells #[(.string o29), (.int .i64 a30), (GV e31)] 94 (0, 0))], [(g2, .cells #[(pt g1 0)] 95 (0, 0))]] rfl (results1 rfl rfl) hle22 ⟨rfl, rfl⟩
 refine WL.eff (EO.extP xt96 (args1 (show ev _ _ = (.iface 0 (.pointer (some b32))) from rfl)) (ty0 _)) rfl ?_
 rintro _ _ _ - ⟨rfl, rfl, rfl⟩
 refine Pm (.iface 167 (.agg #[.pointer (some ⟨1, 94, none⟩)])) hs22_3 rfl ?_
 refine WL.eff (EO.invE (show ev _ _ = (.iface 167 (.agg #[.pointer (some ⟨1, 0, none⟩)])) from rfl) (mm_AssignableTo (pt 1 0)) xt147 (inv1 rfl) mr_AssignableTo_0_94) rfl ?_
 rintro _ _ _ - ⟨rfl, rfl, rfl⟩
 refine Nt ?_
 refine WC.condF (b := false) rfl rfl ?_
 refine WC.skip ?_
 refine WQ.thenC ?_
 refine WC.seq ?_
 refine Sr ?_
 refine Pm (GV (GErr.other b32)) hs22_0 rfl ?_
 refine Pu (.tuple #[.nilIface, (.bool false)]) (PO.asserts (show ev _ _ = (.iface 0 (.pointer (some b32))) from rfl) (la0_171 _ _)) rfl ?_
 refine Pm (.tuple #[.nilIface, (.bool false)]) rfl rfl ?_
 refine Pu .nilIface (PO.extract rfl rfl) rfl ?_
 refine Pu (.bool false) (PO.extract rfl rfl) rfl ?_
 refine Pa .nilIface rfl rfl ?_
 refine Pa (.bool false) rfl rfl ?_
 refine Ns ?_
 refine Pm (.bool false) rfl rfl ?_
 refine Pm (.bool false) rfl rfl ?_
 iterate 3 refine Of 31 rfl rfl rfl rfl ?_
 refine Pu (.bool false) (PO.pickF rfl rfl rfl) rfl ?_
 refine Nt ?_
 refine WC.condF (b := false) rfl rfl ?_
 refine WC.skip ?_
 refine WQ.thenC ?_
 refine Sr ?_
 refine Pm (GV (GErr.other b32)) hs22_0 rfl ?_
 refine Nt ?_
 refine WC.block ?_
 refine Sr ?_
 refine Pu (.tuple #[.nilIface, (.bool false)]) (PO.asserts (show ev _ _ = (.iface 0 (.pointer (some b32))) from rfl) (la0_174 _ _)) rfl ?_
 refine Pu (.bool false) (PO.extract rfl rfl) rfl ?_
 refine Pu .nilIface (PO.extract rfl rfl) rfl ?_
 refine Nt ?_
 refine WC.condF (b := false) rfl rfl ?_
 refine Sr ?_
 refine Pu (.tuple #[.nilIface, (.bool false)]) (PO.asserts (show ev _ _ = (.iface 0 (.pointer (some b32))) from rfl) (la0_175 _ _)) rfl ?_
 refine Pu (.bool false) (PO.extract rfl rfl) rfl ?_
 refine Pu .nilIface (PO.extract rfl rfl) rfl ?_
 refine Nt ?_
 refine WC.condF (b := false) rfl rfl ?_
 refine Sr ?_
 refine Pa (GV (GErr.other b32)) rfl rfl ?_
 refine Ns ?_
 refine Pa (.bool false) rfl rfl ?_
 refine Nt ?_
 refine WC.ret ?_
 refine WQ.blockR ?_
 refine WQ.blockR ?_
 refine WQ.leaveR (false, a1.Op, a1.At, a1.Err) (Option.some.inj h).symm (fun heq22 => ?_)
 subst heq22
 have h := hK22
 refine WQ.blockR ?_
 refine WQ.drop ?_
 exact WQ.returnsF h [[(g1, .cells (l94 a1).toArray 94 (0, 0))], [(g2, .cells #[(pt g1 0)] 95 (0, 0))]] rfl (results1 rfl rfl) hle22 ⟨rfl, rfl⟩

noncomputable def f_errors_As_fault (a0 : GErr) (a1 : T_api_Fault) : Option (Bool × ByteArray × Int × GErr) :=
  (if a0.isNil = true then (some (false, a1.Op, a1.At, a1.Err)) else ((f_errors_as_fault a0 a1).bind fun (r24, r25, r26, r27) => (some (r24, r25, r26, r27))))
def f_errors_As_fault_post (a0 : GErr) (a1 : T_api_Fault) (g1 : Nat) : (Bool × ByteArray × Int × GErr) → Value → IM → HL → Prop :=
  fun (p_ : (Bool × ByteArray × Int × GErr)) (v : Value) (M' : IM) (H' : HL) => match p_ with | (r0, r1, r2, r3) => (.bool r0) = v ∧ H' = [[(g1, .cells #[(.string r1), (.int .i64 r2), (GV r3)] 94 (0, 0))]]
theorem f_errors_As_fault_ok (a0 : GErr) (a1 : T_api_Fault) (M : IM) (g1 : Nat) (hE : Env M) (res : (Bool × ByteArray × Int × GErr)) (h : f_errors_As_fault a0 a1 = some res) :
    Tri Tryz.prog 50 #[(GV a0), (.iface 95 (pt g1 0))] M [[(g1, .cells (l94 a1).toArray 94 (0, 0))]] (f_errors_As_fault_post a0 a1 g1 res) := by
 unfold f_errors_As_fault at h
 refine Tri.enter (fn := Tryz.f50) Tryz.func50 rfl (Nat.le_of_ble_eq_true rfl) ?_
 intro F ρ hρ
 refine Sr ?_
 refine Pa (.bool false) rfl rfl ?_
 refine Nt ?_
 refine WC.seq ?_
 refine Sr ?_
 refine Pm (GV a0) (hρ 0) rfl ?_
 refine Pu (.bool a0.isNil) (PO.errNil Tryz.underlying29 rfl) rfl ?_
 refine Nt ?_
 refine WC.cond (b := a0.isNil) rfl (fun hb21 => ?_) (fun hb21 => ?_)
 have h := ite_t hb21 h
 refine Sr ?_
 refine Pa (.bool false) rfl rfl ?_
 refine Nt ?_
 refine WC.ret ?_
 refine WQ.thenR ?_
 exact WQ.returnsF h [[(g1, .cells (l94 a1).toArray 94 (0, 0))]] rfl (results1 rfl rfl) (IM.le.refl _) ⟨rfl, rfl⟩
 have h := ite_f hb21 h
 refine WC.skip ?_
 refine WQ.thenC ?_
 refine WC.seq ?_
 refine Sr ?_
 refine Pm (.iface 95 (pt g1 0)) (hρ 1) rfl ?_
 refine Pu (.bool false) (PO.ifcNil Tryz.underlying20 rfl) rfl ?_
 refine Nt ?_
 refine WC.condF (b := false) rfl rfl ?_
 refine WC.skip ?_
 refine WQ.thenC ?_
 refine Sr ?_
 refine Pm (.iface 95 (pt g1 0)) (hρ 1) rfl ?_
 refine WL.eff (EO.valueOf xt92 (args1 (show ev _ _ = (.iface 95 (pt g1 0)) from rfl)) (vo95 ⟨g1, 0, none⟩)) rfl ?_
 rintro _ _ _ - ⟨rfl, g22, rfl, rfl⟩
 refine WL.eff (EO.alloc ze139 rfl) rfl ?_
 rintro _ _ _ - ⟨rfl, g23, rfl, rfl⟩
 refine WL.eff (EO.storeL (v := (.agg #[(pt 1 95), (pt g22 0), (.int .u64 150)])) (vl := [(pt 1 95), (pt g22 0), (.int .u64 150)]) (arr' := [(pt 1 95), (pt g22 0), (.int .u64 150)]) rfl sz139 rfl rfl (onesOf (Ones.cons rfl (Ones.cons rfl (Ones.cons rfl Ones.nil)))) rfl rfl rfl) rfl ?_
 rintro _ _ _ - ⟨rfl, rfl⟩
 refine Ns ?_
 refine Pu (.agg #[(pt 1 95), (pt g22 0), (.int .u64 150)]) (PO.loadBA (cs := [(pt 1 95), (pt g22 0), (.int .u64 150)]) 0 ag139 sz139 rfl rfl rfl) rfl ?_
 refine WL.eff (EO.extP xt93 (args1 (show ev _ _ = (.agg #[(pt 1 95), (pt g22 0), (.int .u64 150)]) from rfl)) (vt95_150 _)) rfl ?_
 rintro _ _ _ - ⟨rfl, rfl, rfl⟩
 refine Pa (.iface 167 (.agg #[.pointer (some ⟨1, 95, none⟩)])) rfl rfl ?_
 refine Nt ?_
 refine WC.seq ?_
 refine Sr ?_
 refine Pm (.iface 167 (.agg #[.pointer (some ⟨1, 95, none⟩)])) rfl rfl ?_
 refine WL.eff (EO.invE (show ev _ _ = (.iface 167 (.agg #[.pointer (some ⟨1, 95, none⟩)])) from rfl) (mm_Kind (pt 1 95)) xt137 inv0 mr_Kind_95) rfl ?_
 rintro _ _ _ - ⟨rfl, rfl, rfl⟩
 refine Pu (.bool false) (PO.neqR rfl rfl (by decide)) rfl ?_
 refine Pm (.bool false) rfl rfl ?_
 refine On 20 rfl rfl rfl ?_
 refine Pu (.agg #[(pt 1 95), (pt g22 0), (.int .u64 150)]) (PO.loadBA (cs := [(pt 1 95), (pt g22 0), (.int .u64 150)]) 0 ag139 sz139 rfl rfl rfl) rfl ?_
 refine On 20 rfl rfl rfl ?_
 refine WL.eff (EO.isNil 1 xt94 pp95_150 rfl pl95 (args1 (show ev _ _ = (.agg #[(pt 1 95), (pt g22 0), (.int .u64 150)]) from rfl)) rfl) rfl ?_
 rintro _ _ _ - ⟨rfl, rfl, rfl⟩
 refine Pu (.bool false) (PO.pickF rfl rfl rfl) rfl ?_
 refine Nt ?_
 refine WC.condF (b := false) rfl rfl ?_
 refine WC.skip ?_
 refine WQ.thenC ?_
 refine Sr ?_
 refine Pm (.iface 167 (.agg #[.pointer (some ⟨1, 95, none⟩)])) rfl rfl ?_
 refine WL.eff (EO.invE (show ev _ _ = (.iface 167 (.agg #[.pointer (some ⟨1, 95, none⟩)])) from rfl) (mm_Elem (pt 1 95)) xt149 inv0 mr_Elem_95) rfl ?_
 rintro _ _ _ - ⟨rfl, rfl, rfl⟩
 refine Pa (.iface 167 (.agg #[.pointer (some ⟨1, 94, none⟩)])) rfl rfl ?_
 refine Nt ?_
 refine WC.seq ?_
 refine Sr ?_
 refine Pm (.iface 167 (.agg #[.pointer (some ⟨1, 94, none⟩)])) rfl rfl ?_
 refine WL.eff (EO.invE (show ev _ _ = (.iface 167 (.agg #[.pointer (some ⟨1, 94, none⟩)])) from rfl) (mm_Kind (pt 1 94)) xt137 inv0 mr_Kind_94) rfl ?_
 rintro _ _ _ - ⟨rfl, rfl, rfl⟩
 refine Pu (.bool true) (PO.neqR rfl rfl (by decide)) rfl ?_
 refine Pm (.bool true) rfl rfl ?_
 refine On 30 rfl rfl rfl ?_
 refine Pm (.iface 167 (.agg #[.pointer (some ⟨1, 94, none⟩)])) rfl rfl ?_
 refine On 30 rfl rfl rfl ?_
 refine Pu (.iface 167 (.agg #[.pointer (some ⟨1, 29, none⟩)])) (PO.loadG pl142 hE) rfl ?_
 refine On 30 rfl rfl rfl ?_
 refine WL.eff (EO.invE (show ev _ _ = (.iface 167 (.agg #[.pointer (some ⟨1, 94, none⟩)])) from rfl) (mm_Implements (pt 1 94)) xt150 (inv1 rfl) mr_Implements_94_29) rfl ?_
 rintro _ _ _ - ⟨rfl, rfl, rfl⟩
 refine On 30 rfl rfl rfl ?_
 refine Pu (.bool (!true)) (PO.not rfl) rfl ?_
 refine Pu (.bool (!true)) (PO.pickT rfl rfl rfl) rfl ?_
 refine Nt ?_
 refine WC.condF (b := !true) rfl rfl ?_
 refine WC.skip ?_
 refine WQ.thenC ?_
 refine Sr ?_
 refine Pm (GV a0) (hρ 0) rfl ?_
 refine Pm (.iface 95 (pt g1 0)) (hρ 1) rfl ?_
 refine Pu (.agg #[(pt 1 95), (pt g22 0), (.int .u64 150)]) (PO.loadBA (cs := [(pt 1 95), (pt g22 0), (.int .u64 150)]) 0 ag139 sz139 rfl rfl rfl) rfl ?_
 refine Pm (.iface 167 (.agg #[.pointer (some ⟨1, 94, none⟩)])) rfl rfl ?_
 obtain ⟨⟨r24, r25, r26, r27⟩, hr28, h⟩ := bnd h
 refine WL.f1 ?_
 refine WL.f2 ?_
 refine WL.eff (EO.call2 co95 (f_errors_as_fault_ok a0 a1 _ _ _ (r24, r25, r26, r27) hr28) (args4 rfl rfl rfl rfl)) rfl ?_
 rintro _ M29 _ hle30 ⟨_, ⟨rfl, rfl⟩, rfl⟩
 have hE := hE.mono hle30
 refine WL.a2 ?_
 refine Pa (.bool r24) rfl rfl ?_
 refine Nt ?_
 refine WC.ret ?_
 refine WQ.f1 ?_
 refine WQ.drop ?_
 refine WQ.f1 ?_
 refine WQ.drop ?_
 exact WQ.returnsF h [[(g1, .cells #[(.string r25), (.int .i64 r26), (GV r27)] 94 (0, 0))]] rfl (results1 rfl rfl) hle30 ⟨rfl, rfl⟩

noncomputable def f_fault_Where (a0 : GErr) : Option (Int × Bool) :=
  ((f_errors_As_fault a0 (⟨(⟨#[]⟩ : ByteArray), (0 : Int), GErr.nil⟩ : T_api_Fault)).bind fun (r22, r23, r24, r25) => (if (!r22) = true then (some ((0 : Int), false)) else (some (r24, true))))
def f_fault_Where_post (a0 : GErr) : (Int × Bool) → Value → IM → HL → Prop :=
  fun (p_ : (Int × Bool)) (v : Value) (M' : IM) (H' : HL) => match p_ with | (r0, r1) => (.tuple #[(.int .i64 r0), (.bool r1)]) = v ∧ H' = []
theorem f_fault_Where_ok (a0 : GErr) (M : IM) (hE : Env M) (res : (Int × Bool)) (h : f_fault_Where a0 = some res) :
    Tri Tryz.prog 29 #[(GV a0)] M [] (f_fault_Where_post a0 res) := by
 unfold f_fault_Where at h
 refine Tri.enter (fn := Tryz.f29) Tryz.func29 rfl (Nat.le_of_ble_eq_true rfl) ?_
 intro F ρ hρ
 refine Sr ?_
 refine Pa (.int .i64 0) rfl rfl ?_
 refine Pa (.bool false) rfl rfl ?_
 refine Ns ?_
 refine WL.eff (EO.alloc ze94 rfl) rfl ?_
 rintro _ _ _ - ⟨rfl, g21, rfl, rfl⟩
 refine Nt ?_
 refine WC.seq ?_
 refine Sr ?_
 refine Pm (GV a0) (hρ 0) rfl ?_
 refine Pu (.iface 95 (pt g21 0)) (PO.makeInterface cc95 rfl) rfl ?_
 obtain ⟨⟨r22, r23, r24, r25⟩, hr26, h⟩ := bnd h
 refine WL.eff (EO.call1 co50 (f_errors_As_fault_ok a0 (⟨(⟨#[]⟩ : ByteArray), (0 : Int), GErr.nil⟩ : T_api_Fault) _ _ hE (r22, r23, r24, r25) hr26) (args2 rfl rfl)) rfl ?_
 rintro _ M27 _ hle28 ⟨_, ⟨rfl, rfl⟩, rfl⟩
 have hE := hE.mono hle28
 refine WL.a1 ?_
 refine Pu (.bool (!r22)) (PO.not rfl) rfl ?_
 refine Nt ?_
 refine WC.cond (b := !r22) rfl (fun hb30 => ?_) (fun hb30 => ?_)
 have h := ite_t hb30 h
 refine Sr ?_
 refine Pa (.int .i64 0) rfl rfl ?_
 refine Pa (.bool false) rfl rfl ?_
 refine Nt ?_
 refine WC.ret ?_
 refine WQ.thenR ?_
 refine WQ.drop ?_
 exact WQ.returnsF h [] rfl (results2 rfl rfl rfl) hle28 ⟨rfl, rfl⟩
 have h := ite_f hb30 h
 refine WC.skip ?_
 refine WQ.thenC ?_
 refine Sr ?_
 refine Pu (pt g21 1) (PO.fieldAddr fo94_1 rfl rfl) rfl ?_
 refine Pu (.int .i64 r24) (PO.loadB 0 pl3 rfl rfl rfl) rfl ?_
 refine Pa (.int .i64 r24) rfl rfl ?_
 refine Pa (.bool true) rfl rfl ?_
 refine Nt ?_
 refine WC.ret ?_
 refine WQ.drop ?_
 exact WQ.returnsF h [] rfl (results2 rfl rfl rfl) hle28 ⟨rfl, rfl⟩

noncomputable def f_fault_Path_l0 (s_ : (GErr × (List ByteArray))) : Option ((GErr × (List ByteArray)) ⊕ (List ByteArray)) :=
  match s_ with
  | (x24, x25) =>
    (if (!x24.isNil) = true then ((f_errors_As_fault x24 (⟨(⟨#[]⟩ : ByteArray), (0 : Int), GErr.nil⟩ : T_api_Fault)).bind fun (r29, r30, r31, r32) => (if (!r29) = true then (some (Sum.inr x25)) else (grd (x25.length + [r30].length ≤ 274877906944) (some (Sum.inl (r32, x25 ++ [r30])))))) else (some (Sum.inr x25)))
noncomputable def f_fault_Path (a0 : GErr) : Option (List ByteArray) :=
  ((((iter (f_fault_Path_l0) (a0, [])).bind (fun (x26 : (List ByteArray)) => (some x26))) : Option (List ByteArray)).bind fun (x21 : (List ByteArray)) => (some x21))
def f_fault_Path_post (a0 : GErr) : (List ByteArray) → Value → IM → HL → Prop :=
  fun (r0 : (List ByteArray)) (v : Value) (M' : IM) (H' : HL) => ∃ vz0 cz0, vz0 = v ∧ H' = [cz0] ∧ OwnS Kd.str M' vz0 r0 cz0
theorem f_fault_Path_ok (a0 : GErr) (M : IM) (hE : Env M) (res : (List ByteArray)) (h : f_fault_Path a0 = some res) :
    Tri Tryz.prog 52 #[(GV a0)] M [] (f_fault_Path_post a0 res) := by
 unfold f_fault_Path at h
 refine Tri.enter (fn := Tryz.f52) Tryz.func52 rfl (Nat.le_of_ble_eq_true rfl) ?_
 intro F ρ hρ
 refine Sr ?_
 refine Pa (.slice none 0 0) rfl rfl ?_
 refine Ns ?_
 refine Pa (.slice none 0 0) rfl rfl ?_
 refine Nt ?_
 obtain ⟨x21, hj22, h⟩ := bnd h
 refine WC.joinF (fun (x21 : (List ByteArray)) ρ' M' H' => ∃ vx21 cx21, M.le M' ∧ cx21 :: F = H' ∧ ρ' 3 = vx21 ∧ OwnS Kd.str M' vx21 x21 cx21) x21 ?_ ?_
 have h322 := h
 have h := hj22
 refine WC.block ?_
 refine WC.e0 ?_
 obtain ⟨e23, he23, hK23⟩ := bnd h
 clear h
 refine WC.loop he23 (fun (p_ : (GErr × (List ByteArray))) ρ' M' H' => match p_ with | (x24, x25) => ∃ vx25 cx25, M.le M' ∧ cx25 :: F = H' ∧ ρ' 0 = (GV x24) ∧ ρ' 3 = vx25 ∧ OwnS Kd.str M' vx25 x25 cx25) ?_ ?_
 exact ⟨(.slice none 0 0), [], (IM.le.refl _), rfl, (hρ 0), rfl, (OwnS.nil _ _)⟩
 rintro ⟨x24, x25⟩ o23 ρ23 M23 H23 h ⟨vx25, cx25, hle23, rfl, hs23_0, hs23_3, hx25⟩
 unfold f_fault_Path_l0 at h
 have hE := hE.mono hle23
 refine WC.seq ?_
 refine Sr ?_
 refine Pm (GV x24) hs23_0 rfl ?_
 refine Pu (.bool (!x24.isNil)) (PO.errNotNil Tryz.underlying29 rfl) rfl ?_
 refine Nt ?_
 refine WC.cond (b := !x24.isNil) rfl (fun hb27 => ?_) (fun hb27 => ?_)
 have h := ite_t hb27 h
 refine WC.skip ?_
 refine WQ.thenC ?_
 refine WC.block ?_
 refine Sr ?_
 refine WL.eff (EO.alloc ze94 rfl) rfl ?_
 rintro _ _ _ - ⟨rfl, g28, rfl, rfl⟩
 refine Nt ?_
 refine WC.seq ?_
 refine Sr ?_
 refine Pm (GV x24) hs23_0 rfl ?_
 refine Pu (.iface 95 (pt g28 0)) (PO.makeInterface cc95 rfl) rfl ?_
 obtain ⟨⟨r29, r30, r31, r32⟩, hr33, h⟩ := bnd h
 refine WL.eff (EO.call1 co50 (f_errors_As_fault_ok x24 (⟨(⟨#[]⟩ : ByteArray), (0 : Int), GErr.nil⟩ : T_api_Fault) _ _ hE (r29, r30, r31, r32) hr33) (args2 rfl rfl)) rfl ?_
 rintro _ M34 _ hle35 ⟨_, ⟨rfl, rfl⟩, rfl⟩
 have hx25 := hx25.mono hle35
 have hE := hE.mono hle35
 refine WL.a1 ?_
 refine Pu (.bool (!r29)) (PO.not rfl) rfl ?_
 refine Nt ?_
 refine WC.cond (b := !r29) rfl (fun hb37 => ?_) (fun hb37 => ?_)
 have h := ite_t hb37 h
 refine WC.exit ?_
 refine WQ.thenE ?_
 refine WQ.blockM rfl ?_
 refine WQ.leaveE x25 (Option.some.inj h).symm (fun heq23 => ?_)
 subst heq23
 have h := hK23
 refine WQ.blockH ?_
 refine WQ.drop ?_
 obtain rfl := Option.some.inj h
 refine WQ.thenJ ?_
 exact ⟨vx25, cx25, (hle23.trans hle35), rfl, hs23_3, hx25⟩
 have h := ite_f hb37 h
 refine WC.skip ?_
 refine WQ.thenC ?_
 refine Sr ?_
 refine Pm vx25 hs23_3 rfl ?_
 refine Pu (pt g28 0) (PO.fieldAddr fo94_0 rfl rfl) rfl ?_
 refine Pu (.string r30) (PO.loadB 0 pl9 rfl rfl rfl) rfl ?_
 refine WL.eff (EO.buildSliceL (cl := [(.string r30)]) Tryz.underlying96 iz9 rfl (Parts.cons (congrArg Value.cells (show ev _ _ = (.string r30) from rfl)) Parts.nil) rfl) rfl ?_
 rintro _ _ _ - ⟨rfl, g38, rfl, rfl⟩
 have h40 : OwnS Kd.str M34 (.slice (some ⟨g38, 0, none⟩) 1 1) [r30] [(g38, .cells #[(.string r30)] 9 (0, 0))] := OwnS.rows (css := [[(.string r30)]]) (Rows.cons rfl Rows.nil) rfl rfl
 obtain ⟨hg44, h⟩ := grd_i h
 refine WL.f2 ?_
 refine WL.eff (EO.append (dd := Kd.str) (xs := x25) (ys := [r30]) Tryz.underlying96 Tryz.underlying96 in9 rfl (appB (by decide) hg44) (by decide) rfl rfl hx25 (h40.src 1 rfl)) rfl ?_
 rintro v43 _ _ - ⟨rfl, c41, rfl, h42⟩
 refine Pa v43 rfl rfl ?_
 refine Nt ?_
 refine WC.region ?_
 refine Pu (pt g28 2) (PO.fieldAddr fo94_2 rfl rfl) rfl ?_
 refine Pu (GV r32) (PO.loadB 2 pl29 rfl rfl rfl) rfl ?_
 refine Pa (GV r32) rfl rfl ?_
 refine WL.nil ?_
 refine WQ.blockN ?_
 refine WQ.f1 ?_
 refine WQ.drop ?_
 refine WQ.f1 ?_
 refine WQ.drop ?_
 refine WQ.again (r32, x25 ++ [r30]) (Option.some.inj h).symm ?_
 exact ⟨v43, c41, (hle23.trans hle35), rfl, rfl, rfl, h42⟩
 have h := ite_f hb27 h
 refine WC.exit ?_
 refine WQ.thenE ?_
 refine WQ.leaveE x25 (Option.some.inj h).symm (fun heq23 => ?_)
 subst heq23
 have h := hK23
 refine WQ.blockH ?_
 obtain rfl := Option.some.inj h
 refine WQ.thenJ ?_
 exact ⟨vx25, cx25, hle23, rfl, hs23_3, hx25⟩
 rintro ρ22 M22 H22 ⟨vx21, cx21, hle22, rfl, hs22_3, hx21⟩
 have hE := hE.mono hle22
 refine Sr ?_
 refine Pm vx21 hs22_3 rfl ?_
 refine Pa vx21 rfl rfl ?_
 refine Nt ?_
 refine WC.ret ?_
 exact WQ.returnsF h [cx21] rfl (results1 rfl rfl) hle22 ⟨vx21, cx21, rfl, rfl, hx21⟩

noncomputable def f_fault_Under_l0 (a1 : ByteArray) (r22 : (List ByteArray)) (s_ : Int) : Option (Int ⊕ (Unit ⊕ Unit)) :=
  match s_ with
  | x28 =>
    (if (decide (x28 < (r22.length : Int))) = true then (grd (0 ≤ x28 ∧ x28 < r22.length) (if (decide ((rd r22 x28) = a1)) = true then (some (Sum.inr (Sum.inr ()))) else (some (Sum.inl (IntKind.i64.wrap (x28 + (1 : Int))))))) else (some (Sum.inr (Sum.inl ()))))
noncomputable def f_fault_Under (a0 : GErr) (a1 : ByteArray) : Option Bool :=
  ((((f_fault_Path a0).bind fun (r22 : (List ByteArray)) => ((iter (f_fault_Under_l0 a1 r22) (0 : Int)).bind (Sum.elim (fun _ => (some (Sum.inl ()))) (fun _ => (((some true)).bind fun r => some (Sum.inr r)))))) : Option (Unit ⊕ Bool)).bind (Sum.elim (fun _ => (some false)) some))
def f_fault_Under_post (a0 : GErr) (a1 : ByteArray) : Bool → Value → IM → HL → Prop :=
  fun (r0 : Bool) (v : Value) (M' : IM) (H' : HL) => (.bool r0) = v ∧ H' = []
theorem f_fault_Under_ok (a0 : GErr) (a1 : ByteArray) (M : IM) (hE : Env M) (res : Bool) (h : f_fault_Under a0 a1 = some res) :
    Tri Tryz.prog 30 #[(GV a0), (.string a1)] M [] (f_fault_Under_post a0 a1 res) := by
 unfold f_fault_Under at h
 refine Tri.enter (fn := Tryz.f30) Tryz.func30 rfl (Nat.le_of_ble_eq_true rfl) ?_
 intro F ρ hρ
 refine Sr ?_
 refine Pa (.bool false) rfl rfl ?_
 refine Nt ?_
 obtain ⟨j21, hj21, h⟩ := bnd h
 refine WC.joinE (fun (_ : Unit) ρ' M' H' => M.le M' ∧ F = H') j21 ?_ ?_
 have h321 := h
 have h := hj21
 refine Sr ?_
 refine Pm (GV a0) (hρ 0) rfl ?_
 obtain ⟨r22, hr23, h⟩ := bnd h
 refine WL.eff (EO.call0 co52 (f_fault_Path_ok a0 _ hE r22 hr23) (args1 rfl)) rfl ?_
 rintro _ M24 _ hle25 ⟨_, ⟨vq26, cq26, rfl, rfl, hq26⟩, rfl⟩
 have hE := hE.mono hle25
 refine WL.a1 ?_
 refine Pu (.int .i64 (r22.length : Int)) (PO.lenS Tryz.underlying96 rfl hq26.len) rfl ?_
 refine Pm (.int .i64 0) rfl rfl ?_
 refine Nt ?_
 refine WC.block ?_
 obtain ⟨e27, he27, hK27⟩ := bnd h
 clear h
 refine WC.loop he27 (fun (x28 : Int) ρ' M' H' => M24.le M' ∧ cq26 :: F = H' ∧ ρ' 1 = (.string a1) ∧ ρ' 8 = vq26 ∧ ρ' 9 = (.int .i64 (r22.length : Int)) ∧ ρ' 10 = (.int .i64 x28)) ?_ ?_
 exact ⟨(IM.le.refl _), rfl, (hρ 1), rfl, rfl, rfl⟩
 rintro x28 o27 ρ27 M27 H27 h ⟨hle27, rfl, hs27_1, hs27_8, hs27_9, hs27_10⟩
 unfold f_fault_Under_l0 at h
 have hq26 := hq26.mono hle27
 have hE := hE.mono hle27
 refine Sr ?_
 refine Pu (.bool (decide (x28 < (r22.length : Int)))) (PO.lss hs27_10 hs27_9) rfl ?_
 refine Nt ?_
 refine WC.seq ?_
 refine WC.cond (b := decide (x28 < (r22.length : Int))) rfl (fun hb29 => ?_) (fun hb29 => ?_)
 have h := ite_t hb29 h
 refine WC.skip ?_
 refine WQ.thenC ?_
 refine WC.seq ?_
 refine WC.block ?_
 refine Sr ?_
 obtain ⟨hg30, h⟩ := grd_i h
 obtain ⟨p31, cs32, hat33, hrc34, hhas35⟩ := hq26.at hg30.1 hg30.2
 obtain rfl := hrc34
 refine Pu (.pointer (some p31)) (PO.indexAddr (n := r22.length) Tryz.underlying96 sz9 hs27_8 hs27_10 hg30.1 hg30.2 hat33) rfl ?_
 refine Pu (.string (rd r22 x28)) (PO.loadC 0 pl9 rfl rfl (chunkHas0 hhas35)) rfl ?_
 refine Pa (.string (rd r22 x28)) rfl rfl ?_
 refine Ns ?_
 refine Pm (.string (rd r22 x28)) rfl rfl ?_
 refine Pm (.string a1) hs27_1 rfl ?_
 refine Pu (.bool (decide ((rd r22 x28) = a1))) (PO.seql rfl rfl) rfl ?_
 refine Nt ?_
 refine WC.cond (b := decide ((rd r22 x28) = a1)) rfl (fun hb37 => ?_) (fun hb37 => ?_)
 have h := ite_t hb37 h
 refine Sr ?_
 refine Pa (.bool true) rfl rfl ?_
 refine Nt ?_
 refine WC.ret ?_
 refine WQ.blockR ?_
 refine WQ.thenR ?_
 refine WQ.leaveR (Sum.inr ()) (Option.some.inj h).symm (fun heq27 => ?_)
 subst heq27
 have h := (elimR hK27)
 refine WQ.blockR ?_
 refine WQ.thenR ?_
 have h := KK.early h h321
 refine WQ.drop ?_
 exact WQ.returnsF h [] rfl (results1 rfl rfl) (hle25.trans hle27) ⟨rfl, rfl⟩
 have h := ite_f hb37 h
 refine WC.skip ?_
 refine WQ.blockN ?_
 refine WQ.thenC ?_
 refine WC.region ?_
 refine Pu (.int .i64 (IntKind.i64.wrap (x28 + 1))) (PO.add hs27_10 rfl) rfl ?_
 refine Pm (.int .i64 (IntKind.i64.wrap (x28 + 1))) rfl rfl ?_
 refine WL.nil ?_
 refine WQ.again (IntKind.i64.wrap (x28 + 1)) (Option.some.inj h).symm ?_
 exact ⟨hle27, rfl, hs27_1, hs27_8, hs27_9, rfl⟩
 have h := ite_f hb29 h
 refine WC.exit ?_
 refine WQ.thenE ?_
 refine WQ.leaveE (Sum.inl ()) (Option.some.inj h).symm (fun heq27 => ?_)
 subst heq27
 have h := elimL hK27
 refine WQ.blockH ?_
 refine WQ.drop ?_
 refine WQ.thenFE h ?_
 exact ⟨(hle25.trans hle27), rfl⟩
 rintro _ ρ21 M21 H21 rfl ⟨hle21, rfl⟩
 have h := (Sum.elim_inl _ _ _).symm.trans h
 have hE := hE.mono hle21
 refine Sr ?_
 refine Pa (.bool false) rfl rfl ?_
 refine Nt ?_
 refine WC.ret ?_
 exact WQ.returnsF h [] rfl (results1 rfl rfl) hle21 ⟨rfl, rfl⟩

noncomputable def f_law06_wrong (a0 : GErr) (a1 : T_ref06_Wrong) : Option Bool :=
  (if a0.isNil = true then (some (decide (a1.W.Code = (0 : Int)))) else ((f_fault_Where a0).bind fun (r23, r24) => ((((f_fault_Of a0).bind fun (r32 : Int) => (if (decide (r32 = a1.W.Code)) = true then (if r24 = true then (if (decide (r23 = a1.W.At)) = true then ((f_fault_Under a0 a1.W.Op).bind fun (r40 : Bool) => (if r40 = true then (if (decide (a1.Record < (0 : Int))) = true then (some true) else ((f_fault_Under a0 (⟨#[114, 101, 99, 111, 114, 100]⟩ : ByteArray)).bind fun (r47 : Bool) => (some r47))) else (some false))) else (some false)) else (some false)) else (some false))) : Option Bool).bind fun (x30 : Bool) => (some x30))))
def f_law06_wrong_post (a0 : GErr) (a1 : T_ref06_Wrong) : Bool → Value → IM → HL → Prop :=
  fun (r0 : Bool) (v : Value) (M' : IM) (H' : HL) => (.bool r0) = v ∧ H' = []
theorem f_law06_wrong_ok (a0 : GErr) (a1 : T_ref06_Wrong) (M : IM) (hE : Env M) (res : Bool) (h : f_law06_wrong a0 a1 = some res) :
    Tri Tryz.prog 8 #[(GV a0), (a35_ a1)] M [] (f_law06_wrong_post a0 a1 res) := by
 unfold f_law06_wrong at h
 refine Tri.enter (fn := Tryz.f8) Tryz.func8 rfl (Nat.le_of_ble_eq_true rfl) ?_
 intro F ρ hρ
 refine Sr ?_
 refine WL.eff (EO.box (cs := (l35 a1).toArray) (congrArg Value.cells (asE (a35_ a1) (hρ 1)))) rfl ?_
 rintro _ _ _ - ⟨rfl, g21, rfl, rfl⟩
 refine Pa (.bool false) rfl rfl ?_
 refine Nt ?_
 refine WC.seq ?_
 refine Sr ?_
 refine Pm (GV a0) (hρ 0) rfl ?_
 refine Pu (.bool a0.isNil) (PO.errNil Tryz.underlying29 rfl) rfl ?_
 refine Nt ?_
 refine WC.cond (b := a0.isNil) rfl (fun hb22 => ?_) (fun hb22 => ?_)
 have h := ite_t hb22 h
 refine Sr ?_
 refine Pu (pt g21 0) (PO.fieldAddr fo35_0 rfl rfl) rfl ?_
 refine Pu (pt g21 2) (PO.fieldAddr fo33_2 rfl rfl) rfl ?_
 refine Pu (.int .i64 a1.W.Code) (PO.loadB 0 pl31 rfl rfl rfl) rfl ?_
 refine Pu (.bool (decide (a1.W.Code = 0))) (PO.eql rfl rfl) rfl ?_
 refine Pa (.bool (decide (a1.W.Code = 0))) rfl rfl ?_
 refine Nt ?_
 refine WC.ret ?_
 refine WQ.thenR ?_
 refine WQ.drop ?_
 exact WQ.returnsF h [] rfl (results1 rfl rfl) (IM.le.refl _) ⟨rfl, rfl⟩
 have h := ite_f hb22 h
 refine WC.skip ?_
 refine WQ.thenC ?_
 refine Sr ?_
 refine Pm (GV a0) (hρ 0) rfl ?_
 obtain ⟨⟨r23, r24⟩, hr25, h⟩ := bnd h
 refine WL.eff (EO.call0 co29 (f_fault_Where_ok a0 _ hE (r23, r24) hr25) (args1 rfl)) rfl ?_
 rintro _ M26 _ hle27 ⟨_, ⟨rfl, rfl⟩, rfl⟩
 have hE := hE.mono hle27
 refine WL.a0 ?_
 refine Pm (.tuple #[(.int .i64 r23), (.bool r24)]) rfl rfl ?_
 refine Pu (.int .i64 r23) (PO.extract rfl rfl) rfl ?_
 refine Pu (.bool r24) (PO.extract rfl rfl) rfl ?_
 refine Pa (.int .i64 r23) rfl rfl ?_
 refine Pa (.bool r24) rfl rfl ?_
 refine Nt ?_
 obtain ⟨x30, hj31, h⟩ := bnd h
 refine WC.joinF (fun (x30 : Bool) ρ' M' H' => M26.le M' ∧ [(g21, .cells (l35 a1).toArray 35 (0, 0))] :: F = H' ∧ ρ' 4 = (.bool x30)) x30 ?_ ?_
 have h331 := h
 have h := hj31
 refine WC.draw [0, 1, 0, 4, 12, 31, 63, 127, 255, 511, 1023, 1023, 3071, 7167, 16383, 32767, 65535, 131071, 131071, 393215, 917503, 2097151, 4194303, 8388607, 16777215, 33554431, 67108863, 134217727, 268435455, 536870911, 1073741823, 2147483647, 4294967295] (.pure 0 (.pure 2 (.pure 3 (.pure 4 (.alt 1 (.pure 5 (.pure 6 (.pure 7 (.pure 8 (.pure 9 (.pure 10 (.pure 11 (.pure 12 (.pure 13 (.pure 14 (.pure 15 (.pure 16 (.pure 17 (.pure 18 (.pure 19 (.pure 20 (.alt 21 (.pure 22 (.pure 23 (.pure 24 (.pure 25 (.pure 26 (.pure 27 (.pure 28 (.alt 29 (.pure 30 (.pure 31 (.pure 32 .done))) .none)))))))) .none))))))))))))))))) .none))))) mixed (by kernel_rfl) ?_
 refine Tp (GV a0) rfl (PO.move (hρ 0)) rfl ?_
 refine Tp (pt g21 0) rfl (PO.fieldAddr fo35_0 rfl rfl) rfl ?_
 refine Tp (pt g21 2) rfl (PO.fieldAddr fo33_2 rfl rfl) rfl ?_
 refine Tp (.int .i64 a1.W.Code) rfl (PO.loadB 0 pl31 rfl rfl rfl) rfl ?_
 obtain ⟨r32, hr33, h⟩ := bnd h
 refine WT.alt rfl (EO.call0 co24 (f_fault_Of_ok a0 _ hE r32 hr33) (args1 rfl)) rfl ?_ ?_
 rintro _ M34 _ hle35 ⟨_, ⟨rfl, rfl⟩, rfl⟩
 have hE := hE.mono hle35
 refine ⟨(StabL.st (StabA.of rfl (PO.loadB 0 pl31 rfl rfl rfl) rfl) (StabL.st (StabA.of rfl (PO.fieldAddr fo33_2 rfl rfl) rfl) (StabL.st (StabA.of rfl (PO.fieldAddr fo35_0 rfl rfl) rfl) (StabL.anc rfl trivial)))), ?_⟩
 refine WT.a0 ?_
 refine Tp (.bool (decide (r32 = a1.W.Code))) rfl (PO.eql rfl rfl) rfl ?_
 refine Tp (.bool (decide (r32 = a1.W.Code))) rfl (PO.move rfl) rfl ?_
 rcases Bool.eq_false_or_eq_true (decide (r32 = a1.W.Code)) with hb37 | hb37
 have h := ite_t hb37 h
 refine Tn (.bool r24) 24 rfl rfl rfl hb37 (PO.move rfl) rfl ?_
 refine Tp (.bool r24) rfl (PO.pickT rfl hb37 rfl) rfl ?_
 refine Tp (.bool r24) rfl (PO.move rfl) rfl ?_
 rcases Bool.eq_false_or_eq_true (r24) with hb38 | hb38
 have h := ite_t hb38 h
 refine Tn (.int .i64 r23) 27 rfl rfl rfl hb38 (PO.move rfl) rfl ?_
 refine Tn (pt g21 0) 27 rfl rfl rfl hb38 (PO.fieldAddr fo35_0 rfl rfl) rfl ?_
 refine Tn (pt g21 1) 27 rfl rfl rfl hb38 (PO.fieldAddr fo33_1 rfl rfl) rfl ?_
 refine Tn (.int .i64 a1.W.At) 27 rfl rfl rfl hb38 (PO.loadB 0 pl3 rfl rfl rfl) rfl ?_
 refine Tn (.bool (decide (r23 = a1.W.At))) 27 rfl rfl rfl hb38 (PO.eql rfl rfl) rfl ?_
 refine Tp (.bool (decide (r23 = a1.W.At))) rfl (PO.pickT rfl hb38 rfl) rfl ?_
 refine Tp (.bool (decide (r23 = a1.W.At))) rfl (PO.move rfl) rfl ?_
 rcases Bool.eq_false_or_eq_true (decide (r23 = a1.W.At)) with hb39 | hb39
 have h := ite_t hb39 h
 refine Tn (GV a0) 34 rfl rfl rfl hb39 (PO.move (hρ 0)) rfl ?_
 refine Tn (pt g21 0) 34 rfl rfl rfl hb39 (PO.fieldAddr fo35_0 rfl rfl) rfl ?_
 refine Tn (pt g21 0) 34 rfl rfl rfl hb39 (PO.fieldAddr fo33_0 rfl rfl) rfl ?_
 refine Tn (.string a1.W.Op) 34 rfl rfl rfl hb39 (PO.loadB 0 pl9 rfl rfl rfl) rfl ?_
 obtain ⟨r40, hr41, h⟩ := bnd h
 refine WT.altOn 34 rfl rfl rfl hb39 (EO.call0 co30 (f_fault_Under_ok a0 a1.W.Op _ hE r40 hr41) (args2 rfl rfl)) rfl ?_ ?_
 rintro _ M42 _ hle43 ⟨_, ⟨rfl, rfl⟩, rfl⟩
 have hE := hE.mono hle43
 refine ⟨(StabL.anc rfl (StabL.anc rfl (StabL.anc rfl (StabL.anc rfl (StabL.anc rfl (StabL.anc rfl (StabL.anc rfl (StabL.anc rfl (StabL.anc rfl (StabL.anc rfl (StabL.anc rfl (StabL.anc rfl (StabL.anc rfl (StabL.anc rfl (StabL.anc rfl (StabL.anc rfl (StabL.anc rfl (StabL.anc rfl (StabL.anc rfl (StabL.anc rfl trivial)))))))))))))))))))), ?_⟩
 refine WT.a0 ?_
 refine Tp (.bool r40) rfl (PO.pickT rfl hb39 rfl) rfl ?_
 refine Tp (.bool r40) rfl (PO.move rfl) rfl ?_
 rcases Bool.eq_false_or_eq_true (r40) with hb45 | hb45
 have h := ite_t hb45 h
 refine Tn (pt g21 3) 41 rfl rfl rfl hb45 (PO.fieldAddr fo35_1 rfl rfl) rfl ?_
 refine Tn (.int .i64 a1.Record) 41 rfl rfl rfl hb45 (PO.loadB 0 pl3 rfl rfl rfl) rfl ?_
 refine Tn (.bool (decide (a1.Record < 0))) 41 rfl rfl rfl hb45 (PO.lss rfl rfl) rfl ?_
 refine Tn (.bool (decide (a1.Record < 0))) 41 rfl rfl rfl hb45 (PO.move rfl) rfl ?_
 rcases Bool.eq_false_or_eq_true (decide (a1.Record < 0)) with hb46 | hb46
 have h := ite_t hb46 h
 refine WT.pureOff 45 rfl rfl rfl hb46 rfl ?_
 refine WT.altOff 45 rfl rfl rfl hb46 rfl ⟨(StabL.anc rfl (StabL.anc rfl (StabL.anc rfl (StabL.anc rfl (StabL.anc rfl (StabL.anc rfl (StabL.anc rfl (StabL.anc rfl (StabL.anc rfl (StabL.anc rfl (StabL.anc rfl (StabL.anc rfl (StabL.anc rfl (StabL.anc rfl (StabL.anc rfl (StabL.anc rfl (StabL.anc rfl (StabL.anc rfl (StabL.anc rfl (StabL.anc rfl (StabL.anc rfl (StabL.anc rfl (StabL.anc rfl (StabL.anc rfl (StabL.anc rfl (StabL.anc rfl (StabL.anc rfl trivial))))))))))))))))))))))))))), ?_⟩ ?_
 refine Tn (.bool true) 41 rfl rfl rfl hb45 (PO.pickT rfl hb46 rfl) rfl ?_
 refine Tp (.bool true) rfl (PO.pickT rfl hb45 rfl) rfl ?_
 refine Tp (.bool true) rfl (PO.assign rfl) rfl ?_
 refine WT.fin ?_
 obtain rfl := Option.some.inj h
 refine WQ.thenJ ?_
 exact ⟨(hle35.trans hle43), rfl, rfl⟩
 exact WT.no
 have h := ite_f hb46 h
 refine Tn (GV a0) 45 rfl rfl rfl hb46 (PO.move (hρ 0)) rfl ?_
 obtain ⟨r47, hr48, h⟩ := bnd h
 refine WT.altOn 45 rfl rfl rfl hb46 (EO.call0 co30 (f_fault_Under_ok a0 (⟨#[114, 101, 99, 111, 114, 100]⟩ : ByteArray) _ hE r47 hr48) (args2 rfl rfl)) rfl ?_ ?_
 rintro _ M49 _ hle50 ⟨_, ⟨rfl, rfl⟩, rfl⟩
 have hE := hE.mono hle50
 refine ⟨(StabL.anc rfl (StabL.anc rfl (StabL.anc rfl (StabL.anc rfl (StabL.anc rfl (StabL.anc rfl (StabL.anc rfl (StabL.anc rfl (StabL.anc rfl (StabL.anc rfl (StabL.anc rfl (StabL.anc rfl (StabL.anc rfl (StabL.anc rfl (StabL.anc rfl (StabL.anc rfl (StabL.anc rfl (StabL.anc rfl (StabL.anc rfl (StabL.anc rfl (StabL.anc rfl (StabL.anc rfl (StabL.anc rfl (StabL.anc rfl (StabL.anc rfl (StabL.anc rfl (StabL.anc rfl trivial))))))))))))))))))))))))))), ?_⟩
 refine WT.a0 ?_
 refine Tn (.bool r47) 41 rfl rfl rfl hb45 (PO.pickF rfl hb46 rfl) rfl ?_
 refine Tp (.bool r47) rfl (PO.pickT rfl hb45 rfl) rfl ?_
 refine Tp (.bool r47) rfl (PO.assign rfl) rfl ?_
 refine WT.fin ?_
 obtain rfl := Option.some.inj h
 refine WQ.thenJ ?_
 exact ⟨((hle35.trans hle43).trans hle50), rfl, rfl⟩
 exact WT.no
 have h := ite_f hb45 h
 refine WT.pureOff 41 rfl rfl rfl hb45 rfl ?_
 refine WT.pureOff 41 rfl rfl rfl hb45 rfl ?_
 refine WT.pureOff 41 rfl rfl rfl hb45 rfl ?_
 refine WT.pureOff 41 rfl rfl rfl hb45 rfl ?_
 refine WT.pureOffU 45 rfl rfl rfl  rfl ?_
 refine WT.altOffU 45 rfl rfl rfl  rfl ⟨(StabL.anc rfl (StabL.anc rfl (StabL.anc rfl (StabL.anc rfl (StabL.anc rfl (StabL.anc rfl (StabL.anc rfl (StabL.anc rfl (StabL.anc rfl (StabL.anc rfl (StabL.anc rfl (StabL.anc rfl (StabL.anc rfl (StabL.anc rfl (StabL.anc rfl (StabL.anc rfl (StabL.anc rfl (StabL.anc rfl (StabL.anc rfl (StabL.anc rfl (StabL.anc rfl (StabL.anc rfl (StabL.anc rfl (StabL.anc rfl (StabL.anc rfl (StabL.anc rfl (StabL.anc rfl trivial))))))))))))))))))))))))))), ?_⟩ ?_
 refine WT.pureOff 41 rfl rfl rfl hb45 rfl ?_
 refine Tp (.bool false) rfl (PO.pickF rfl hb45 rfl) rfl ?_
 refine Tp (.bool false) rfl (PO.assign rfl) rfl ?_
 refine WT.fin ?_
 obtain rfl := Option.some.inj h
 refine WQ.thenJ ?_
 exact ⟨(hle35.trans hle43), rfl, rfl⟩
 exact WT.no
 exact WT.no
 have h := ite_f hb39 h
 refine WT.pureOff 34 rfl rfl rfl hb39 rfl ?_
 refine WT.pureOff 34 rfl rfl rfl hb39 rfl ?_
 refine WT.pureOff 34 rfl rfl rfl hb39 rfl ?_
 refine WT.pureOff 34 rfl rfl rfl hb39 rfl ?_
 refine WT.altOff 34 rfl rfl rfl hb39 rfl ⟨(StabL.anc rfl (StabL.anc rfl (StabL.anc rfl (StabL.anc rfl (StabL.anc rfl (StabL.anc rfl (StabL.anc rfl (StabL.anc rfl (StabL.anc rfl (StabL.anc rfl (StabL.anc rfl (StabL.anc rfl (StabL.anc rfl (StabL.anc rfl (StabL.anc rfl (StabL.anc rfl (StabL.anc rfl (StabL.anc rfl (StabL.anc rfl (StabL.anc rfl trivial)))))))))))))))))))), ?_⟩ ?_
 refine Tp (.bool false) rfl (PO.pickF rfl hb39 rfl) rfl ?_
 refine Tp (.bool false) rfl (PO.move rfl) rfl ?_
 refine WT.pureOff 41 rfl rfl rfl rfl rfl ?_
 refine WT.pureOff 41 rfl rfl rfl rfl rfl ?_
 refine WT.pureOff 41 rfl rfl rfl rfl rfl ?_
 refine WT.pureOff 41 rfl rfl rfl rfl rfl ?_
 refine WT.pureOffU 45 rfl rfl rfl  rfl ?_
 refine WT.altOffU 45 rfl rfl rfl  rfl ⟨(StabL.anc rfl (StabL.anc rfl (StabL.anc rfl (StabL.anc rfl (StabL.anc rfl (StabL.anc rfl (StabL.anc rfl (StabL.anc rfl (StabL.anc rfl (StabL.anc rfl (StabL.anc rfl (StabL.anc rfl (StabL.anc rfl (StabL.anc rfl (StabL.anc rfl (StabL.anc rfl (StabL.anc rfl (StabL.anc rfl (StabL.anc rfl (StabL.anc rfl (StabL.anc rfl (StabL.anc rfl (StabL.anc rfl (StabL.anc rfl (StabL.anc rfl (StabL.anc rfl (StabL.anc rfl trivial))))))))))))))))))))))))))), ?_⟩ ?_
 refine WT.pureOff 41 rfl rfl rfl rfl rfl ?_
 refine Tp (.bool false) rfl (PO.pickF rfl rfl rfl) rfl ?_
 refine Tp (.bool false) rfl (PO.assign rfl) rfl ?_
 refine WT.fin ?_
 obtain rfl := Option.some.inj h
 refine WQ.thenJ ?_
 exact ⟨hle35, rfl, rfl⟩
 exact WT.no
 exact WT.no
 have h := ite_f hb38 h
 refine WT.pureOff 27 rfl rfl rfl hb38 rfl ?_
 refine WT.pureOff 27 rfl rfl rfl hb38 rfl ?_
 refine WT.pureOff 27 rfl rfl rfl hb38 rfl ?_
 refine WT.pureOff 27 rfl rfl rfl hb38 rfl ?_
 refine WT.pureOff 27 rfl rfl rfl hb38 rfl ?_
 refine Tp (.bool false) rfl (PO.pickF rfl hb38 rfl) rfl ?_
 refine Tp (.bool false) rfl (PO.move rfl) rfl ?_
 refine WT.pureOff 34 rfl rfl rfl rfl rfl ?_
 refine WT.pureOff 34 rfl rfl rfl rfl rfl ?_
 refine WT.pureOff 34 rfl rfl rfl rfl rfl ?_
 refine WT.pureOff 34 rfl rfl rfl rfl rfl ?_
 refine WT.altOff 34 rfl rfl rfl rfl rfl ⟨(StabL.anc rfl (StabL.anc rfl (StabL.anc rfl (StabL.anc rfl (StabL.anc rfl (StabL.anc rfl (StabL.anc rfl (StabL.anc rfl (StabL.anc rfl (StabL.anc rfl (StabL.anc rfl (StabL.anc rfl (StabL.anc rfl (StabL.anc rfl (StabL.anc rfl (StabL.anc rfl (StabL.anc rfl (StabL.anc rfl (StabL.anc rfl (StabL.anc rfl trivial)))))))))))))))))))), ?_⟩ ?_
 refine Tp (.bool false) rfl (PO.pickF rfl rfl rfl) rfl ?_
 refine Tp (.bool false) rfl (PO.move rfl) rfl ?_
 refine WT.pureOff 41 rfl rfl rfl rfl rfl ?_
 refine WT.pureOff 41 rfl rfl rfl rfl rfl ?_
 refine WT.pureOff 41 rfl rfl rfl rfl rfl ?_
 refine WT.pureOff 41 rfl rfl rfl rfl rfl ?_
 refine WT.pureOffU 45 rfl rfl rfl  rfl ?_
 refine WT.altOffU 45 rfl rfl rfl  rfl ⟨(StabL.anc rfl (StabL.anc rfl (StabL.anc rfl (StabL.anc rfl (StabL.anc rfl (StabL.anc rfl (StabL.anc rfl (StabL.anc rfl (StabL.anc rfl (StabL.anc rfl (StabL.anc rfl (StabL.anc rfl (StabL.anc rfl (StabL.anc rfl (StabL.anc rfl (StabL.anc rfl (StabL.anc rfl (StabL.anc rfl (StabL.anc rfl (StabL.anc rfl (StabL.anc rfl (StabL.anc rfl (StabL.anc rfl (StabL.anc rfl (StabL.anc rfl (StabL.anc rfl (StabL.anc rfl trivial))))))))))))))))))))))))))), ?_⟩ ?_
 refine WT.pureOff 41 rfl rfl rfl rfl rfl ?_
 refine Tp (.bool false) rfl (PO.pickF rfl rfl rfl) rfl ?_
 refine Tp (.bool false) rfl (PO.assign rfl) rfl ?_
 refine WT.fin ?_
 obtain rfl := Option.some.inj h
 refine WQ.thenJ ?_
 exact ⟨hle35, rfl, rfl⟩
 exact WT.no
 exact WT.no
 have h := ite_f hb37 h
 refine WT.pureOff 24 rfl rfl rfl hb37 rfl ?_
 refine Tp (.bool false) rfl (PO.pickF rfl hb37 rfl) rfl ?_
 refine Tp (.bool false) rfl (PO.move rfl) rfl ?_
 refine WT.pureOff 27 rfl rfl rfl rfl rfl ?_
 refine WT.pureOff 27 rfl rfl rfl rfl rfl ?_
 refine WT.pureOff 27 rfl rfl rfl rfl rfl ?_
 refine WT.pureOff 27 rfl rfl rfl rfl rfl ?_
 refine WT.pureOff 27 rfl rfl rfl rfl rfl ?_
 refine Tp (.bool false) rfl (PO.pickF rfl rfl rfl) rfl ?_
 refine Tp (.bool false) rfl (PO.move rfl) rfl ?_
 refine WT.pureOff 34 rfl rfl rfl rfl rfl ?_
 refine WT.pureOff 34 rfl rfl rfl rfl rfl ?_
 refine WT.pureOff 34 rfl rfl rfl rfl rfl ?_
 refine WT.pureOff 34 rfl rfl rfl rfl rfl ?_
 refine WT.altOff 34 rfl rfl rfl rfl rfl ⟨(StabL.anc rfl (StabL.anc rfl (StabL.anc rfl (StabL.anc rfl (StabL.anc rfl (StabL.anc rfl (StabL.anc rfl (StabL.anc rfl (StabL.anc rfl (StabL.anc rfl (StabL.anc rfl (StabL.anc rfl (StabL.anc rfl (StabL.anc rfl (StabL.anc rfl (StabL.anc rfl (StabL.anc rfl (StabL.anc rfl (StabL.anc rfl (StabL.anc rfl trivial)))))))))))))))))))), ?_⟩ ?_
 refine Tp (.bool false) rfl (PO.pickF rfl rfl rfl) rfl ?_
 refine Tp (.bool false) rfl (PO.move rfl) rfl ?_
 refine WT.pureOff 41 rfl rfl rfl rfl rfl ?_
 refine WT.pureOff 41 rfl rfl rfl rfl rfl ?_
 refine WT.pureOff 41 rfl rfl rfl rfl rfl ?_
 refine WT.pureOff 41 rfl rfl rfl rfl rfl ?_
 refine WT.pureOffU 45 rfl rfl rfl  rfl ?_
 refine WT.altOffU 45 rfl rfl rfl  rfl ⟨(StabL.anc rfl (StabL.anc rfl (StabL.anc rfl (StabL.anc rfl (StabL.anc rfl (StabL.anc rfl (StabL.anc rfl (StabL.anc rfl (StabL.anc rfl (StabL.anc rfl (StabL.anc rfl (StabL.anc rfl (StabL.anc rfl (StabL.anc rfl (StabL.anc rfl (StabL.anc rfl (StabL.anc rfl (StabL.anc rfl (StabL.anc rfl (StabL.anc rfl (StabL.anc rfl (StabL.anc rfl (StabL.anc rfl (StabL.anc rfl (StabL.anc rfl (StabL.anc rfl (StabL.anc rfl trivial))))))))))))))))))))))))))), ?_⟩ ?_
 refine WT.pureOff 41 rfl rfl rfl rfl rfl ?_
 refine Tp (.bool false) rfl (PO.pickF rfl rfl rfl) rfl ?_
 refine Tp (.bool false) rfl (PO.assign rfl) rfl ?_
 refine WT.fin ?_
 obtain rfl := Option.some.inj h
 refine WQ.thenJ ?_
 exact ⟨hle35, rfl, rfl⟩
 exact WT.no
 exact WT.no
 exact WT.no
 rintro ρ31 M31 H31 ⟨hle31, rfl, hs31_4⟩
 have hE := hE.mono hle31
 refine WC.ret ?_
 refine WQ.drop ?_
 exact WQ.returnsF h [] rfl (results1 rfl hs31_4) (hle27.trans hle31) ⟨rfl, rfl⟩


end Go.Proofs.YtjiffdgidodebaaGreatDoor.G
