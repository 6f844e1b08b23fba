/- Go functions: what they come to, and that they do. Printed by a program of the session (gen). -/
import Derived.Test.YtafkdjljkolehaaGreatDoorBF
import Derived.Test.YtafkdjljkolehaaGreatDoorB7
import Derived.Test.YtafkdjljkolehaaGreatDoorKConv
set_option linter.unusedVariables false
set_option linter.unusedSimpArgs false
set_option maxHeartbeats 8000000
set_option maxRecDepth 100000
namespace Go.Proofs.YtafkdjljkolehaaGreatDoor.G
open Go Go.KK

noncomputable def f_ref02_num_l0 (s_ : (Int × Int)) : Option ((Int × Int) ⊕ Int) :=
  match s_ with
  | (x40, x41) =>
    (if (decide ((0 : Int) < x41)) = true then (some (Sum.inl (IntKind.i64.wrap (x40 * (2 : Int)), IntKind.u8.wrap (x41 - (1 : Int))))) else (some (Sum.inr x40)))
noncomputable def f_ref02_num_l1 (a0 : (List Int)) (a1 : T_ref02_State) (x30 : Int) (s_ : (Int × Int)) : Option ((Int × Int) ⊕ Int) :=
  match s_ with
  | (x60, x61) =>
    (if (decide (x61 < x30)) = true then (grd (0 ≤ IntKind.i64.wrap (a1.At + x61) ∧ IntKind.i64.wrap (a1.At + x61) < a0.length) (some (Sum.inl (IntKind.u64.wrap ((IntKind.u64.wrap (x60 * (256 : Int))) + (IntKind.u64.wrap (rd a0 (IntKind.i64.wrap (a1.At + x61))))), IntKind.i64.wrap (x61 + (1 : Int)))))) else (some (Sum.inr x60)))
noncomputable def f_ref02_num (a0 : (List Int)) (a1 : T_ref02_State) (a2 : Int) : Option (T_ref02_State × Int) :=
  (if (decide (a1.Code ≠ (0 : Int))) = true then (some (a1, (0 : Int))) else (if (decide ((a0.length : Int) ≤ a1.At)) = true then ((f_ref02_bad a1 (⟨#[110, 117, 109]⟩ : ByteArray) a1.At (3 : Int)).bind fun (r25 : T_ref02_State) => (some (r25, (0 : Int)))) else (((grd (0 ≤ a1.At ∧ a1.At < a0.length) ((iter (f_ref02_num_l0) ((1 : Int), IntKind.u8.wrap ((rd a0 a1.At).tdiv (64 : Int)))).bind (fun (x42 : Int) => (some x42)))) : Option Int).bind fun (x30 : Int) => (if (decide ((a0.length : Int) < (IntKind.i64.wrap (a1.At + x30)))) = true then ((f_ref02_bad a1 (⟨#[110, 117, 109]⟩ : ByteArray) a1.At (3 : Int)).bind fun (r45 : T_ref02_State) => (some (r45, (0 : Int)))) else (grd (0 ≤ a1.At ∧ a1.At < a0.length) ((((iter (f_ref02_num_l1 a0 a1 x30) (IntKind.u64.wrap ((rd a0 a1.At).tmod (64 : Int)), (1 : Int))).bind (fun (x62 : Int) => (some x62))) : Option Int).bind fun (x57 : Int) => ((f_ref02_size x57).bind fun (r71 : Int) => (if (decide (r71 ≠ x30)) = true then ((f_ref02_bad a1 (⟨#[110, 117, 109]⟩ : ByteArray) a1.At (5 : Int)).bind fun (r77 : T_ref02_State) => (some (r77, (0 : Int)))) else (if (decide (a2 < x57)) = true then ((f_ref02_bad a1 (⟨#[110, 117, 109]⟩ : ByteArray) a1.At (6 : Int)).bind fun (r83 : T_ref02_State) => (some (r83, (0 : Int)))) else (some ((⟨IntKind.i64.wrap (a1.At + x30), (0 : Int), (⟨#[]⟩ : ByteArray), (0 : Int)⟩ : T_ref02_State), x57)))))))))))
def f_ref02_num_post (a0 : (List Int)) (a1 : T_ref02_State) (a2 : Int) (v0 : Value) : (T_ref02_State × Int) → Value → IM → HL → Prop :=
  fun (p_ : (T_ref02_State × Int)) (v : Value) (M' : IM) (H' : HL) => match p_ with | (r0, r1) => (.tuple #[(.agg #[(.int .i64 r0.At), (.int .i64 r0.Code), (.string r0.Op), (.int .i64 r0.Where)]), (.int .u64 r1)]) = v ∧ H' = []
theorem f_ref02_num_ok (a0 : (List Int)) (a1 : T_ref02_State) (a2 : Int) (M : IM) (v0 : Value) (h0 : RS (Kd.int .u8) M v0 a0) (res : (T_ref02_State × Int)) (h : f_ref02_num a0 a1 a2 = some res) :
    Tri Tryz.prog 81 #[v0, (a29_ a1), (.int .u64 a2)] M [] (f_ref02_num_post a0 a1 a2 v0 res) := by
 unfold f_ref02_num at h
 refine Tri.enter (fn := Tryz.f81) Tryz.func81 rfl (Nat.le_of_ble_eq_true rfl) ?_
 intro F ρ hρ
 refine Sr ?_
 refine WL.eff (EO.box (cs := (l29 a1).toArray) (congrArg Value.cells (asE (a29_ a1) (hρ 1)))) rfl ?_
 rintro _ _ _ - ⟨rfl, g21, rfl, rfl⟩
 refine WL.eff (EO.alloc ze29 rfl) rfl ?_
 rintro _ _ _ - ⟨rfl, g22, rfl, rfl⟩
 refine Pa (.int .u64 0) rfl rfl ?_
 refine Nt ?_
 refine WC.seq ?_
 refine Sr ?_
 refine Pu (pt g21 1) (PO.fieldAddr fo29_1 rfl rfl) rfl ?_
 refine Pu (.int .i64 a1.Code) (PO.loadB 1 pl27 rfl rfl rfl) rfl ?_
 refine Pu (.bool (decide (a1.Code ≠ 0))) (PO.neq rfl rfl) rfl ?_
 refine Nt ?_
 refine WC.cond (b := decide (a1.Code ≠ 0)) rfl (fun hb23 => ?_) (fun hb23 => ?_)
 have h := ite_t hb23 h
 refine Sr ?_
 refine Pu (a29_ a1) (PO.loadBA (cs := (l29 a1)) 1 ag29 sz29 rfl rfl rfl) rfl ?_
 refine WL.eff (EO.storeL (v := (a29_ a1)) (vl := (l29 a1)) (arr' := (l29 a1)) rfl sz29 rfl rfl (onesOf (Ones.cons rfl (Ones.cons rfl (Ones.cons rfl (Ones.cons rfl Ones.nil))))) rfl rfl rfl) rfl ?_
 rintro _ _ _ - ⟨rfl, rfl⟩
 refine Pa (.int .u64 0) rfl rfl ?_
 refine Nt ?_
 refine WC.ret ?_
 refine WQ.thenR ?_
 refine WQ.f1 ?_
 refine WQ.drop ?_
 exact WQ.returnsD h [] (fun _ hs => hs.drop) (resultsLN rfl (RVs.cons (RV.cellA (cs := (l29 a1)) 0 ag29 sz29 rfl rfl rfl) (RVs.cons (RV.tmp rfl) RVs.nil))) (IM.le.refl _) ⟨rfl, rfl⟩
 have h := ite_f hb23 h
 refine WC.skip ?_
 refine WQ.thenC ?_
 refine WC.seq ?_
 refine Sr ?_
 refine Pu (pt g21 0) (PO.fieldAddr fo29_0 rfl rfl) rfl ?_
 refine Pu (.int .i64 a1.At) (PO.loadB 1 pl3 rfl rfl rfl) rfl ?_
 refine Pm v0 (hρ 0) rfl ?_
 refine Pu (.int .i64 (a0.length : Int)) (PO.lenS Tryz.underlying22 rfl h0.len) rfl ?_
 refine Pu (.bool (decide ((a0.length : Int) ≤ a1.At))) (PO.geq rfl rfl) rfl ?_
 refine Nt ?_
 refine WC.cond (b := decide ((a0.length : Int) ≤ a1.At)) rfl (fun hb24 => ?_) (fun hb24 => ?_)
 have h := ite_t hb24 h
 refine Sr ?_
 refine Pu (a29_ a1) (PO.loadBA (cs := (l29 a1)) 1 ag29 sz29 rfl rfl rfl) rfl ?_
 refine Pu (pt g21 0) (PO.fieldAddr fo29_0 rfl rfl) rfl ?_
 refine Pu (.int .i64 a1.At) (PO.loadB 1 pl3 rfl rfl rfl) rfl ?_
 obtain ⟨r25, hr26, h⟩ := bnd h
 refine WL.eff (EO.call0 co70 (f_ref02_bad_ok a1 (⟨#[110, 117, 109]⟩ : ByteArray) a1.At (3 : Int) _ r25 hr26) (args4 rfl rfl rfl rfl)) rfl ?_
 rintro _ M27 _ hle28 ⟨_, ⟨rfl, rfl⟩, rfl⟩
 have h0 := h0.mono hle28
 refine WL.a0 ?_
 refine WL.eff (EO.storeL (v := (a29_ r25)) (vl := (l29 r25)) (arr' := (l29 r25)) rfl sz29 rfl rfl (onesOf (Ones.cons rfl (Ones.cons rfl (Ones.cons rfl (Ones.cons rfl Ones.nil))))) rfl rfl rfl) rfl ?_
 rintro _ _ _ - ⟨rfl, rfl⟩
 refine Pa (.int .u64 0) rfl rfl ?_
 refine Nt ?_
 refine WC.ret ?_
 refine WQ.thenR ?_
 refine WQ.f1 ?_
 refine WQ.drop ?_
 exact WQ.returnsD h [] (fun _ hs => hs.drop) (resultsLN rfl (RVs.cons (RV.cellA (cs := (l29 r25)) 0 ag29 sz29 rfl rfl rfl) (RVs.cons (RV.tmp rfl) RVs.nil))) hle28 ⟨rfl, rfl⟩
 have h := ite_f hb24 h
 refine WC.skip ?_
 refine WQ.thenC ?_
 refine Sr ?_
 refine Pa (.int .i64 1) rfl rfl ?_
 refine Nt ?_
 obtain ⟨x30, hj31, h⟩ := bnd h
 refine WC.joinF (fun (x30 : Int) ρ' M' H' => M.le M' ∧ [(g22, .cells z29_.toArray 29 (0, 0))] :: [(g21, .cells (l29 a1).toArray 29 (0, 0))] :: F = H' ∧ ρ' 0 = v0 ∧ ρ' 2 = (.int .u64 a2) ∧ ρ' 4 = (pt g21 0) ∧ ρ' 6 = (pt g22 0) ∧ ρ' 8 = (.int .i64 x30)) x30 ?_ ?_
 have h331 := h
 have h := hj31
 refine Sr ?_
 refine Pm v0 (hρ 0) rfl ?_
 refine Pu (pt g21 0) (PO.fieldAddr fo29_0 rfl rfl) rfl ?_
 refine Pu (.int .i64 a1.At) (PO.loadB 1 pl3 rfl rfl rfl) rfl ?_
 obtain ⟨hg32, h⟩ := grd_i h
 obtain ⟨p33, cs34, hat35, hrc36, hhas37⟩ := h0.at hg32.1 hg32.2 (by decide)
 obtain rfl := hrc36
 refine Pu (.pointer (some p33)) (PO.indexAddr (n := a0.length) Tryz.underlying22 sz5 rfl rfl hg32.1 hg32.2 hat35) rfl ?_
 refine Pu (.int .u8 (rd a0 a1.At)) (PO.loadM pl5 rfl (IM.has0 hhas37)) rfl ?_
 refine Pu (.int .u8 (IntKind.u8.wrap ((rd a0 a1.At).tdiv (64 : Int)))) (PO.quo rfl rfl (by decide)) rfl ?_
 refine Pa (.int .u8 (IntKind.u8.wrap ((rd a0 a1.At).tdiv (64 : Int)))) rfl rfl ?_
 refine Nt ?_
 refine WC.block ?_
 obtain ⟨e39, he39, hK39⟩ := bnd h
 clear h
 refine WC.loop he39 (fun (p_ : (Int × Int)) ρ' M' H' => match p_ with | (x40, x41) => M.le M' ∧ [(g22, .cells z29_.toArray 29 (0, 0))] :: [(g21, .cells (l29 a1).toArray 29 (0, 0))] :: F = H' ∧ ρ' 0 = v0 ∧ ρ' 2 = (.int .u64 a2) ∧ ρ' 4 = (pt g21 0) ∧ ρ' 6 = (pt g22 0) ∧ ρ' 8 = (.int .i64 x40) ∧ ρ' 9 = (.int .u8 x41)) ?_ ?_
 exact ⟨(IM.le.refl _), rfl, (hρ 0), (hρ 2), rfl, rfl, rfl, rfl⟩
 rintro ⟨x40, x41⟩ o39 ρ39 M39 H39 h ⟨hle39, rfl, hs39_0, hs39_2, hs39_4, hs39_6, hs39_8, hs39_9⟩
 unfold f_ref02_num_l0 at h
 have h0 := h0.mono hle39
 refine WC.seq ?_
 refine Sr ?_
 refine Pm (.int .u8 x41) hs39_9 rfl ?_
 refine Pu (.bool (decide ((0 : Int) < x41))) (PO.gtr rfl rfl) rfl ?_
 refine Nt ?_
 refine WC.cond (b := decide ((0 : Int) < x41)) rfl (fun hb43 => ?_) (fun hb43 => ?_)
 have h := ite_t hb43 h
 refine WC.skip ?_
 refine WQ.thenC ?_
 refine WC.seq ?_
 refine WC.block ?_
 refine WC.region ?_
 refine Pm (.int .i64 x40) hs39_8 rfl ?_
 refine Pu (.int .i64 (IntKind.i64.wrap (x40 * (2 : Int)))) (PO.mul rfl rfl) rfl ?_
 refine Pa (.int .i64 (IntKind.i64.wrap (x40 * (2 : Int)))) rfl rfl ?_
 refine WL.nil ?_
 refine WQ.blockN ?_
 refine WQ.thenC ?_
 refine WC.region ?_
 refine Pm (.int .u8 x41) hs39_9 rfl ?_
 refine Pu (.int .u8 (IntKind.u8.wrap (x41 - 1))) (PO.sub rfl rfl) rfl ?_
 refine Pa (.int .u8 (IntKind.u8.wrap (x41 - 1))) rfl rfl ?_
 refine WL.nil ?_
 refine WQ.again (IntKind.i64.wrap (x40 * (2 : Int)), IntKind.u8.wrap (x41 - 1)) (Option.some.inj h).symm ?_
 exact ⟨hle39, rfl, hs39_0, hs39_2, hs39_4, hs39_6, rfl, rfl⟩
 have h := ite_f hb43 h
 refine WC.exit ?_
 refine WQ.thenE ?_
 refine WQ.leaveE x40 (Option.some.inj h).symm (fun heq39 => ?_)
 subst heq39
 have h := hK39
 refine WQ.blockH ?_
 obtain rfl := Option.some.inj h
 refine WQ.thenJ ?_
 exact ⟨hle39, rfl, hs39_0, hs39_2, hs39_4, hs39_6, hs39_8⟩
 rintro ρ31 M31 H31 ⟨hle31, rfl, hs31_0, hs31_2, hs31_4, hs31_6, hs31_8⟩
 have h0 := h0.mono hle31
 refine WC.seq ?_
 refine Sr ?_
 refine Pu (pt g21 0) (PO.fieldAddr fo29_0 hs31_4 rfl) rfl ?_
 refine Pu (.int .i64 a1.At) (PO.loadB 1 pl3 rfl rfl rfl) rfl ?_
 refine Pm (.int .i64 x30) hs31_8 rfl ?_
 refine Pu (.int .i64 (IntKind.i64.wrap (a1.At + x30))) (PO.add rfl rfl) rfl ?_
 refine Pm v0 hs31_0 rfl ?_
 refine Pu (.int .i64 (a0.length : Int)) (PO.lenS Tryz.underlying22 rfl h0.len) rfl ?_
 refine Pu (.bool (decide ((a0.length : Int) < (IntKind.i64.wrap (a1.At + x30))))) (PO.gtr rfl rfl) rfl ?_
 refine Nt ?_
 refine WC.cond (b := decide ((a0.length : Int) < (IntKind.i64.wrap (a1.At + x30)))) rfl (fun hb44 => ?_) (fun hb44 => ?_)
 have h := ite_t hb44 h
 refine Sr ?_
 refine Pu (a29_ a1) (PO.loadBA (cs := (l29 a1)) 1 ag29 sz29 hs31_4 rfl rfl) rfl ?_
 refine Pu (pt g21 0) (PO.fieldAddr fo29_0 hs31_4 rfl) rfl ?_
 refine Pu (.int .i64 a1.At) (PO.loadB 1 pl3 rfl rfl rfl) rfl ?_
 obtain ⟨r45, hr46, h⟩ := bnd h
 refine WL.eff (EO.call0 co70 (f_ref02_bad_ok a1 (⟨#[110, 117, 109]⟩ : ByteArray) a1.At (3 : Int) _ r45 hr46) (args4 rfl rfl rfl rfl)) rfl ?_
 rintro _ M47 _ hle48 ⟨_, ⟨rfl, rfl⟩, rfl⟩
 have h0 := h0.mono hle48
 refine WL.a0 ?_
 refine WL.eff (EO.storeL (v := (a29_ r45)) (vl := (l29 r45)) (arr' := (l29 r45)) rfl sz29 hs31_6 rfl (onesOf (Ones.cons rfl (Ones.cons rfl (Ones.cons rfl (Ones.cons rfl Ones.nil))))) rfl rfl rfl) rfl ?_
 rintro _ _ _ - ⟨rfl, rfl⟩
 refine Pa (.int .u64 0) rfl rfl ?_
 refine Nt ?_
 refine WC.ret ?_
 refine WQ.thenR ?_
 refine WQ.f1 ?_
 refine WQ.drop ?_
 exact WQ.returnsD h [] (fun _ hs => hs.drop) (resultsLN rfl (RVs.cons (RV.cellA (cs := (l29 r45)) 0 ag29 sz29 hs31_6 rfl rfl) (RVs.cons (RV.tmp rfl) RVs.nil))) (hle31.trans hle48) ⟨rfl, rfl⟩
 have h := ite_f hb44 h
 refine WC.skip ?_
 refine WQ.thenC ?_
 refine Sr ?_
 refine Pm v0 hs31_0 rfl ?_
 refine Pu (pt g21 0) (PO.fieldAddr fo29_0 hs31_4 rfl) rfl ?_
 refine Pu (.int .i64 a1.At) (PO.loadB 1 pl3 rfl rfl rfl) rfl ?_
 obtain ⟨hg50, h⟩ := grd_i h
 obtain ⟨p51, cs52, hat53, hrc54, hhas55⟩ := h0.at hg50.1 hg50.2 (by decide)
 obtain rfl := hrc54
 refine Pu (.pointer (some p51)) (PO.indexAddr (n := a0.length) Tryz.underlying22 sz5 rfl rfl hg50.1 hg50.2 hat53) rfl ?_
 refine Pu (.int .u8 (rd a0 a1.At)) (PO.loadM pl5 rfl (IM.has0 hhas55)) rfl ?_
 refine Pu (.int .u8 ((rd a0 a1.At).tmod (64 : Int))) (PO.rem rfl rfl (by decide)) rfl ?_
 refine Pu (.int .u64 (IntKind.u64.wrap ((rd a0 a1.At).tmod (64 : Int)))) (PO.conv us5 Tryz.underlying90 rfl) rfl ?_
 refine Pa (.int .u64 (IntKind.u64.wrap ((rd a0 a1.At).tmod (64 : Int)))) rfl rfl ?_
 refine Nt ?_
 obtain ⟨x57, hj58, h⟩ := bnd h
 refine WC.joinF (fun (x57 : Int) ρ' M' H' => M31.le M' ∧ [(g22, .cells z29_.toArray 29 (0, 0))] :: [(g21, .cells (l29 a1).toArray 29 (0, 0))] :: F = H' ∧ ρ' 2 = (.int .u64 a2) ∧ ρ' 4 = (pt g21 0) ∧ ρ' 6 = (pt g22 0) ∧ ρ' 8 = (.int .i64 x30) ∧ ρ' 10 = (.int .u64 x57)) x57 ?_ ?_
 have h358 := h
 have h := hj58
 refine Sr ?_
 refine Pa (.int .i64 1) rfl rfl ?_
 refine Nt ?_
 refine WC.block ?_
 obtain ⟨e59, he59, hK59⟩ := bnd h
 clear h
 refine WC.loop he59 (fun (p_ : (Int × Int)) ρ' M' H' => match p_ with | (x60, x61) => M31.le M' ∧ [(g22, .cells z29_.toArray 29 (0, 0))] :: [(g21, .cells (l29 a1).toArray 29 (0, 0))] :: F = H' ∧ ρ' 0 = v0 ∧ ρ' 2 = (.int .u64 a2) ∧ ρ' 4 = (pt g21 0) ∧ ρ' 6 = (pt g22 0) ∧ ρ' 8 = (.int .i64 x30) ∧ ρ' 10 = (.int .u64 x60) ∧ ρ' 11 = (.int .i64 x61)) ?_ ?_
 exact ⟨(IM.le.refl _), rfl, hs31_0, hs31_2, hs31_4, hs31_6, hs31_8, rfl, rfl⟩
 rintro ⟨x60, x61⟩ o59 ρ59 M59 H59 h ⟨hle59, rfl, hs59_0, hs59_2, hs59_4, hs59_6, hs59_8, hs59_10, hs59_11⟩
 unfold f_ref02_num_l1 at h
 have h0 := h0.mono hle59
 refine WC.seq ?_
 refine Sr ?_
 refine Pm (.int .i64 x61) hs59_11 rfl ?_
 refine Pm (.int .i64 x30) hs59_8 rfl ?_
 refine Pu (.bool (decide (x61 < x30))) (PO.lss rfl rfl) rfl ?_
 refine Nt ?_
 refine WC.cond (b := decide (x61 < x30)) rfl (fun hb63 => ?_) (fun hb63 => ?_)
 have h := ite_t hb63 h
 refine WC.skip ?_
 refine WQ.thenC ?_
 refine WC.seq ?_
 refine WC.block ?_
 refine WC.region ?_
 refine Pm (.int .u64 x60) hs59_10 rfl ?_
 refine Pu (.int .u64 (IntKind.u64.wrap (x60 * (256 : Int)))) (PO.mul rfl rfl) rfl ?_
 refine Pm v0 hs59_0 rfl ?_
 refine Pu (pt g21 0) (PO.fieldAddr fo29_0 hs59_4 rfl) rfl ?_
 refine Pu (.int .i64 a1.At) (PO.loadB 1 pl3 rfl rfl rfl) rfl ?_
 refine Pm (.int .i64 x61) hs59_11 rfl ?_
 refine Pu (.int .i64 (IntKind.i64.wrap (a1.At + x61))) (PO.add rfl rfl) rfl ?_
 obtain ⟨hg64, h⟩ := grd_i h
 obtain ⟨p65, cs66, hat67, hrc68, hhas69⟩ := h0.at hg64.1 hg64.2 (by decide)
 obtain rfl := hrc68
 refine Pu (.pointer (some p65)) (PO.indexAddr (n := a0.length) Tryz.underlying22 sz5 rfl rfl hg64.1 hg64.2 hat67) rfl ?_
 refine Pu (.int .u8 (rd a0 (IntKind.i64.wrap (a1.At + x61)))) (PO.loadM pl5 rfl (IM.has0 hhas69)) rfl ?_
 refine Pu (.int .u64 (IntKind.u64.wrap (rd a0 (IntKind.i64.wrap (a1.At + x61))))) (PO.conv us5 Tryz.underlying90 rfl) rfl ?_
 refine Pu (.int .u64 (IntKind.u64.wrap ((IntKind.u64.wrap (x60 * (256 : Int))) + (IntKind.u64.wrap (rd a0 (IntKind.i64.wrap (a1.At + x61))))))) (PO.add rfl rfl) rfl ?_
 refine Pa (.int .u64 (IntKind.u64.wrap ((IntKind.u64.wrap (x60 * (256 : Int))) + (IntKind.u64.wrap (rd a0 (IntKind.i64.wrap (a1.At + x61))))))) rfl rfl ?_
 refine WL.nil ?_
 refine WQ.blockN ?_
 refine WQ.thenC ?_
 refine WC.region ?_
 refine Pm (.int .i64 x61) hs59_11 rfl ?_
 refine Pu (.int .i64 (IntKind.i64.wrap (x61 + 1))) (PO.add rfl rfl) rfl ?_
 refine Pa (.int .i64 (IntKind.i64.wrap (x61 + 1))) rfl rfl ?_
 refine WL.nil ?_
 refine WQ.again (IntKind.u64.wrap ((IntKind.u64.wrap (x60 * (256 : Int))) + (IntKind.u64.wrap (rd a0 (IntKind.i64.wrap (a1.At + x61))))), IntKind.i64.wrap (x61 + 1)) (Option.some.inj h).symm ?_
 exact ⟨hle59, rfl, hs59_0, hs59_2, hs59_4, hs59_6, hs59_8, rfl, rfl⟩
 have h := ite_f hb63 h
 refine WC.exit ?_
 refine WQ.thenE ?_
 refine WQ.leaveE x60 (Option.some.inj h).symm (fun heq59 => ?_)
 subst heq59
 have h := hK59
 refine WQ.blockH ?_
 obtain rfl := Option.some.inj h
 refine WQ.thenJ ?_
 exact ⟨hle59, rfl, hs59_2, hs59_4, hs59_6, hs59_8, hs59_10⟩
 rintro ρ58 M58 H58 ⟨hle58, rfl, hs58_2, hs58_4, hs58_6, hs58_8, hs58_10⟩
 refine WC.seq ?_
 refine Sr ?_
 refine Pm (.int .u64 x57) hs58_10 rfl ?_
 obtain ⟨r71, hr72, h⟩ := bnd h
 refine WL.eff (EO.call0 co90 (f_ref02_size_ok x57 _ r71 hr72) (args1 rfl)) rfl ?_
 rintro _ M73 _ hle74 ⟨_, ⟨rfl, rfl⟩, rfl⟩
 refine WL.a0 ?_
 refine Pm (.int .i64 x30) hs58_8 rfl ?_
 refine Pu (.bool (decide (r71 ≠ x30))) (PO.neq rfl rfl) rfl ?_
 refine Nt ?_
 refine WC.cond (b := decide (r71 ≠ x30)) rfl (fun hb76 => ?_) (fun hb76 => ?_)
 have h := ite_t hb76 h
 refine Sr ?_
 refine Pu (a29_ a1) (PO.loadBA (cs := (l29 a1)) 1 ag29 sz29 hs58_4 rfl rfl) rfl ?_
 refine Pu (pt g21 0) (PO.fieldAddr fo29_0 hs58_4 rfl) rfl ?_
 refine Pu (.int .i64 a1.At) (PO.loadB 1 pl3 rfl rfl rfl) rfl ?_
 obtain ⟨r77, hr78, h⟩ := bnd h
 refine WL.eff (EO.call0 co70 (f_ref02_bad_ok a1 (⟨#[110, 117, 109]⟩ : ByteArray) a1.At (5 : Int) _ r77 hr78) (args4 rfl rfl rfl rfl)) rfl ?_
 rintro _ M79 _ hle80 ⟨_, ⟨rfl, rfl⟩, rfl⟩
 refine WL.a0 ?_
 refine WL.eff (EO.storeL (v := (a29_ r77)) (vl := (l29 r77)) (arr' := (l29 r77)) rfl sz29 hs58_6 rfl (onesOf (Ones.cons rfl (Ones.cons rfl (Ones.cons rfl (Ones.cons rfl Ones.nil))))) rfl rfl rfl) rfl ?_
 rintro _ _ _ - ⟨rfl, rfl⟩
 refine Pa (.int .u64 0) rfl rfl ?_
 refine Nt ?_
 refine WC.ret ?_
 refine WQ.thenR ?_
 refine WQ.f1 ?_
 refine WQ.drop ?_
 exact WQ.returnsD h [] (fun _ hs => hs.drop) (resultsLN rfl (RVs.cons (RV.cellA (cs := (l29 r77)) 0 ag29 sz29 hs58_6 rfl rfl) (RVs.cons (RV.tmp rfl) RVs.nil))) (((hle31.trans hle58).trans hle74).trans hle80) ⟨rfl, rfl⟩
 have h := ite_f hb76 h
 refine WC.skip ?_
 refine WQ.thenC ?_
 refine WC.seq ?_
 refine Sr ?_
 refine Pm (.int .u64 x57) hs58_10 rfl ?_
 refine Pm (.int .u64 a2) hs58_2 rfl ?_
 refine Pu (.bool (decide (a2 < x57))) (PO.gtr rfl rfl) rfl ?_
 refine Nt ?_
 refine WC.cond (b := decide (a2 < x57)) rfl (fun hb82 => ?_) (fun hb82 => ?_)
 have h := ite_t hb82 h
 refine Sr ?_
 refine Pu (a29_ a1) (PO.loadBA (cs := (l29 a1)) 1 ag29 sz29 hs58_4 rfl rfl) rfl ?_
 refine Pu (pt g21 0) (PO.fieldAddr fo29_0 hs58_4 rfl) rfl ?_
 refine Pu (.int .i64 a1.At) (PO.loadB 1 pl3 rfl rfl rfl) rfl ?_
 obtain ⟨r83, hr84, h⟩ := bnd h
 refine WL.eff (EO.call0 co70 (f_ref02_bad_ok a1 (⟨#[110, 117, 109]⟩ : ByteArray) a1.At (6 : Int) _ r83 hr84) (args4 rfl rfl rfl rfl)) rfl ?_
 rintro _ M85 _ hle86 ⟨_, ⟨rfl, rfl⟩, rfl⟩
 refine WL.a0 ?_
 refine WL.eff (EO.storeL (v := (a29_ r83)) (vl := (l29 r83)) (arr' := (l29 r83)) rfl sz29 hs58_6 rfl (onesOf (Ones.cons rfl (Ones.cons rfl (Ones.cons rfl (Ones.cons rfl Ones.nil))))) rfl rfl rfl) rfl ?_
 rintro _ _ _ - ⟨rfl, rfl⟩
 refine Pa (.int .u64 0) rfl rfl ?_
 refine Nt ?_
 refine WC.ret ?_
 refine WQ.thenR ?_
 refine WQ.f1 ?_
 refine WQ.drop ?_
 exact WQ.returnsD h [] (fun _ hs => hs.drop) (resultsLN rfl (RVs.cons (RV.cellA (cs := (l29 r83)) 0 ag29 sz29 hs58_6 rfl rfl) (RVs.cons (RV.tmp rfl) RVs.nil))) (((hle31.trans hle58).trans hle74).trans hle86) ⟨rfl, rfl⟩
 have h := ite_f hb82 h
 refine WC.skip ?_
 refine WQ.thenC ?_
 refine Sr ?_
 refine Pu (pt g21 0) (PO.fieldAddr fo29_0 hs58_4 rfl) rfl ?_
 refine Pu (.int .i64 a1.At) (PO.loadB 1 pl3 rfl rfl rfl) rfl ?_
 refine Pm (.int .i64 x30) hs58_8 rfl ?_
 refine Pu (.int .i64 (IntKind.i64.wrap (a1.At + x30))) (PO.add rfl rfl) rfl ?_
 refine Pu (.agg #[(.int .i64 (IntKind.i64.wrap (a1.At + x30))), (.int .i64 0), (.string ⟨#[]⟩), (.int .i64 0)]) (PO.buildL (cl := [(.int .i64 (IntKind.i64.wrap (a1.At + x30))), (.int .i64 0), (.string ⟨#[]⟩), (.int .i64 0)]) ze29 fp29 (Parts.cons (congrArg Value.cells (show ev _ _ = (.int .i64 (IntKind.i64.wrap (a1.At + x30))) from rfl)) Parts.nil) rfl) rfl ?_
 refine Pm (.int .u64 x57) hs58_10 rfl ?_
 refine WL.eff (EO.storeL (v := (.agg #[(.int .i64 (IntKind.i64.wrap (a1.At + x30))), (.int .i64 0), (.string ⟨#[]⟩), (.int .i64 0)])) (vl := [(.int .i64 (IntKind.i64.wrap (a1.At + x30))), (.int .i64 0), (.string ⟨#[]⟩), (.int .i64 0)]) (arr' := [(.int .i64 (IntKind.i64.wrap (a1.At + x30))), (.int .i64 0), (.string ⟨#[]⟩), (.int .i64 0)]) rfl sz29 hs58_6 rfl (onesOf (Ones.cons rfl (Ones.cons rfl (Ones.cons rfl (Ones.cons rfl Ones.nil))))) rfl rfl rfl) rfl ?_
 rintro _ _ _ - ⟨rfl, rfl⟩
 refine Pa (.int .u64 x57) rfl rfl ?_
 refine Nt ?_
 refine WC.ret ?_
 refine WQ.f1 ?_
 refine WQ.drop ?_
 exact WQ.returnsD h [] (fun _ hs => hs.drop) (resultsLN rfl (RVs.cons (RV.cellA (cs := [(.int .i64 (IntKind.i64.wrap (a1.At + x30))), (.int .i64 0), (.string ⟨#[]⟩), (.int .i64 0)]) 0 ag29 sz29 hs58_6 rfl rfl) (RVs.cons (RV.tmp rfl) RVs.nil))) ((hle31.trans hle58).trans hle74) ⟨rfl, rfl⟩

noncomputable def f_ref02_text (a0 : (List Int)) (a1 : T_ref02_State) (a2 : Int) : Option (T_ref02_State × (List Int)) :=
  ((((f_ref02_above a2).bind fun (r28 : Int) => ((f_ref02_num a0 a1 r28).bind fun (r34, r35) => (some (r34, r35)))) : Option (T_ref02_State × Int)).bind fun (x24, x25) => (if (decide (x24.Code ≠ (0 : Int))) = true then (some (x24, [])) else (if (decide ((IntKind.u64.wrap (IntKind.i64.wrap ((a0.length : Int) - x24.At))) < x25)) = true then ((f_ref02_bad (⟨a1.At, (0 : Int), (⟨#[]⟩ : ByteArray), (0 : Int)⟩ : T_ref02_State) (⟨#[116, 101, 120, 116]⟩ : ByteArray) a1.At (3 : Int)).bind fun (r65 : T_ref02_State) => (some (r65, []))) else (grd (0 ≤ x24.At ∧ x24.At ≤ IntKind.i64.wrap (x24.At + (IntKind.i64.wrap x25)) ∧ IntKind.i64.wrap (x24.At + (IntKind.i64.wrap x25)) ≤ (a0.length : Int)) (some ((⟨IntKind.i64.wrap (x24.At + (IntKind.i64.wrap x25)), (0 : Int), (⟨#[]⟩ : ByteArray), (0 : Int)⟩ : T_ref02_State), sub a0 x24.At (IntKind.i64.wrap (x24.At + (IntKind.i64.wrap x25)))))))))
def f_ref02_text_post (a0 : (List Int)) (a1 : T_ref02_State) (a2 : Int) (v0 : Value) : (T_ref02_State × (List Int)) → Value → IM → HL → Prop :=
  fun (p_ : (T_ref02_State × (List Int))) (v : Value) (M' : IM) (H' : HL) => match p_ with | (r0, r1) => ∃ vz1, (.tuple #[(.agg #[(.int .i64 r0.At), (.int .i64 r0.Code), (.string r0.Op), (.int .i64 r0.Where)]), vz1]) = v ∧ H' = [] ∧ RS (Kd.int .u8) M' vz1 r1
theorem f_ref02_text_ok (a0 : (List Int)) (a1 : T_ref02_State) (a2 : Int) (M : IM) (v0 : Value) (h0 : RS (Kd.int .u8) M v0 a0) (res : (T_ref02_State × (List Int))) (h : f_ref02_text a0 a1 a2 = some res) :
    Tri Tryz.prog 83 #[v0, (a29_ a1), (.int .i64 a2)] M [] (f_ref02_text_post a0 a1 a2 v0 res) := by
 unfold f_ref02_text at h
 refine Tri.enter (fn := Tryz.f83) Tryz.func83 rfl (Nat.le_of_ble_eq_true rfl) ?_
 intro F ρ hρ
 refine Sr ?_
 refine WL.eff (EO.box (cs := (l29 a1).toArray) (congrArg Value.cells (asE (a29_ a1) (hρ 1)))) rfl ?_
 rintro _ _ _ - ⟨rfl, g21, rfl, rfl⟩
 refine WL.eff (EO.alloc ze29 rfl) rfl ?_
 rintro _ _ _ - ⟨rfl, g22, rfl, rfl⟩
 refine Pa (.slice none 0 0) rfl rfl ?_
 refine Nt ?_
 obtain ⟨j26, hj26, h⟩ := bnd h
 refine WC.joinF (fun (p_ : (T_ref02_State × Int)) ρ' M' H' => match p_ with | (x24, x25) => ∃ g23, M.le M' ∧ [(g22, .cells z29_.toArray 29 (0, 0))] :: [(g21, .cells (l29 a1).toArray 29 (0, 0))] :: [(g23, .cells (l29 x24).toArray 29 (0, 0))] :: F = H' ∧ ρ' 0 = v0 ∧ ρ' 4 = (pt g21 0) ∧ ρ' 6 = (pt g22 0) ∧ ρ' 8 = (pt g23 0) ∧ ρ' 9 = (.int .u64 x25)) j26 ?_ ?_
 have h326 := h
 have h := hj26
 refine WC.draw [0, 0, 0, 4, 15, 31, 63, 63, 0, 383, 1023] (.pure 0 (.pure 1 (.pure 2 (.alt 3 (.alt 4 (.pure 5 (.pure 6 (.pure 7 (.alt 8 (.alt 9 (.pure 10 .done) .none) .none)))) (.alt 8 (.alt 4 (.pure 5 (.pure 6 (.pure 7 (.alt 9 (.pure 10 .done) .none)))) .none) .none)) (.alt 8 (.alt 3 (.alt 4 (.pure 5 (.pure 6 (.pure 7 (.alt 9 (.pure 10 .done) .none)))) .none) .none) .none))))) mixed (by kernel_rfl) ?_
 refine Tp v0 rfl (PO.move (hρ 0)) rfl ?_
 refine Tp (a29_ a1) rfl (PO.loadBA (cs := (l29 a1)) 1 ag29 sz29 rfl rfl rfl) rfl ?_
 refine Tp (.int .i64 a2) rfl (PO.move (hρ 2)) rfl ?_
 have hk27 := h
 obtain ⟨r28, hr29, h⟩ := bnd h
 refine WT.alt rfl (EO.call0 co82 (f_ref02_above_ok a2 _ r28 hr29) (args1 rfl)) rfl ?_ ?_
 rintro _ M30 _ hle31 ⟨_, ⟨rfl, rfl⟩, rfl⟩
 have h0 := h0.mono hle31
 refine ⟨(StabL.anc rfl (StabL.st (StabA.of rfl (PO.loadBA (cs := (l29 a1)) 1 ag29 sz29 rfl rfl rfl) rfl) (StabL.st (StabA.of rfl (PO.move (hρ 0)) rfl) trivial))), ?_⟩
 refine WT.a0 ?_
 have hk33 := h
 obtain ⟨⟨r34, r35⟩, hr36, h⟩ := bnd h
 refine WT.alt rfl (EO.call0 co81 (f_ref02_num_ok a0 a1 r28 _ _ h0 (r34, r35) hr36) (args3 rfl rfl rfl)) rfl ?_ ?_
 rintro _ M37 _ hle38 ⟨_, ⟨rfl, rfl⟩, rfl⟩
 have h0 := h0.mono hle38
 refine ⟨(StabL.anc rfl (StabL.anc rfl (StabL.anc rfl trivial))), ?_⟩
 refine WT.a0 ?_
 refine Tp (.tuple #[(a29_ r34), (.int .u64 r35)]) rfl (PO.move rfl) rfl ?_
 refine Tp (a29_ r34) rfl (PO.extract rfl rfl) rfl ?_
 refine Tp (.int .u64 r35) rfl (PO.extract rfl rfl) rfl ?_
 refine WT.alt rfl (EO.alloc ze29 rfl) rfl ?_ ?_
 rintro _ _ _ - ⟨rfl, g41, rfl, rfl⟩
 refine ⟨(StabL.st (StabA.of rfl (PO.extract rfl rfl) rfl) (StabL.st (StabA.of rfl (PO.extract rfl rfl) rfl) (StabL.st (StabA.of rfl (PO.move rfl) rfl) (StabL.st (StabA.of rfl (PO.move (hρ 2)) rfl) (StabL.st (StabA.of rfl (PO.loadBA (cs := (l29 a1)) 2 ag29 sz29 rfl rfl rfl) rfl) (StabL.st (StabA.of rfl (PO.move (hρ 0)) rfl) trivial)))))), ?_⟩
 refine WT.alt rfl (EO.storeL (v := (a29_ r34)) (vl := (l29 r34)) (arr' := (l29 r34)) rfl sz29 rfl rfl (onesOf (Ones.cons rfl (Ones.cons rfl (Ones.cons rfl (Ones.cons rfl Ones.nil))))) rfl rfl rfl) rfl ?_ ?_
 rintro _ _ _ - ⟨rfl, rfl⟩
 refine ⟨(StabL.st (StabA.of rfl (PO.extract rfl rfl) rfl) (StabL.anc rfl (StabL.anc rfl (StabL.anc rfl (StabL.anc rfl (StabL.anc rfl trivial)))))), ?_⟩
 refine Tp (.int .u64 r35) rfl (PO.assign rfl) rfl ?_
 refine WT.fin ?_
 refine WQ.f2 ?_
 refine WQ.f2 ?_
 obtain rfl := Option.some.inj h
 refine WQ.thenJ ?_
 exact ⟨g41, (hle31.trans hle38), rfl, (hρ 0), rfl, rfl, rfl, rfl⟩
 exact WT.no
 exact WT.no
 have h := hk33
 refine WT.alt rfl (EO.alloc ze29 rfl) rfl ?_ ?_
 rintro _ _ _ - ⟨rfl, g42, rfl, rfl⟩
 refine ⟨(StabL.st (StabA.of rfl (PO.move (hρ 2)) rfl) (StabL.st (StabA.of rfl (PO.loadBA (cs := (l29 a1)) 2 ag29 sz29 rfl rfl rfl) rfl) (StabL.st (StabA.of rfl (PO.move (hρ 0)) rfl) trivial))), ?_⟩
 obtain ⟨⟨r43, r44⟩, hr45, h⟩ := bnd h
 refine WT.alt rfl (EO.call0 co81 (f_ref02_num_ok a0 a1 r28 _ _ h0 (r43, r44) hr45) (args3 rfl rfl rfl)) rfl ?_ ?_
 rintro _ M46 _ hle47 ⟨_, ⟨rfl, rfl⟩, rfl⟩
 have h0 := h0.mono hle47
 refine ⟨(StabL.anc rfl (StabL.anc rfl (StabL.anc rfl trivial))), ?_⟩
 refine WT.a0 ?_
 refine Tp (.tuple #[(a29_ r43), (.int .u64 r44)]) rfl (PO.move rfl) rfl ?_
 refine Tp (a29_ r43) rfl (PO.extract rfl rfl) rfl ?_
 refine Tp (.int .u64 r44) rfl (PO.extract rfl rfl) rfl ?_
 refine WT.alt rfl (EO.storeL (v := (a29_ r43)) (vl := (l29 r43)) (arr' := (l29 r43)) rfl sz29 rfl rfl (onesOf (Ones.cons rfl (Ones.cons rfl (Ones.cons rfl (Ones.cons rfl Ones.nil))))) rfl rfl rfl) rfl ?_ ?_
 rintro _ _ _ - ⟨rfl, rfl⟩
 refine ⟨(StabL.st (StabA.of rfl (PO.extract rfl rfl) rfl) (StabL.anc rfl (StabL.anc rfl (StabL.anc rfl (StabL.anc rfl (StabL.anc rfl trivial)))))), ?_⟩
 refine Tp (.int .u64 r44) rfl (PO.assign rfl) rfl ?_
 refine WT.fin ?_
 refine WQ.f2 ?_
 refine WQ.f2 ?_
 obtain rfl := Option.some.inj h
 refine WQ.thenJ ?_
 exact ⟨g42, (hle31.trans hle47), rfl, (hρ 0), rfl, rfl, rfl, rfl⟩
 exact WT.no
 exact WT.no
 exact WT.no
 have h := hk27
 refine WT.alt rfl (EO.alloc ze29 rfl) rfl ?_ ?_
 rintro _ _ _ - ⟨rfl, g50, rfl, rfl⟩
 refine ⟨(StabL.st (StabA.of rfl (PO.move (hρ 2)) rfl) (StabL.st (StabA.of rfl (PO.loadBA (cs := (l29 a1)) 2 ag29 sz29 rfl rfl rfl) rfl) (StabL.st (StabA.of rfl (PO.move (hρ 0)) rfl) trivial))), ?_⟩
 obtain ⟨r51, hr52, h⟩ := bnd h
 refine WT.alt rfl (EO.call0 co82 (f_ref02_above_ok a2 _ r51 hr52) (args1 rfl)) rfl ?_ ?_
 rintro _ M53 _ hle54 ⟨_, ⟨rfl, rfl⟩, rfl⟩
 have h0 := h0.mono hle54
 refine ⟨(StabL.anc rfl (StabL.st (StabA.of rfl (PO.loadBA (cs := (l29 a1)) 2 ag29 sz29 rfl rfl rfl) rfl) (StabL.st (StabA.of rfl (PO.move (hρ 0)) rfl) trivial))), ?_⟩
 refine WT.a0 ?_
 obtain ⟨⟨r56, r57⟩, hr58, h⟩ := bnd h
 refine WT.alt rfl (EO.call0 co81 (f_ref02_num_ok a0 a1 r51 _ _ h0 (r56, r57) hr58) (args3 rfl rfl rfl)) rfl ?_ ?_
 rintro _ M59 _ hle60 ⟨_, ⟨rfl, rfl⟩, rfl⟩
 have h0 := h0.mono hle60
 refine ⟨(StabL.anc rfl (StabL.anc rfl (StabL.anc rfl trivial))), ?_⟩
 refine WT.a0 ?_
 refine Tp (.tuple #[(a29_ r56), (.int .u64 r57)]) rfl (PO.move rfl) rfl ?_
 refine Tp (a29_ r56) rfl (PO.extract rfl rfl) rfl ?_
 refine Tp (.int .u64 r57) rfl (PO.extract rfl rfl) rfl ?_
 refine WT.alt rfl (EO.storeL (v := (a29_ r56)) (vl := (l29 r56)) (arr' := (l29 r56)) rfl sz29 rfl rfl (onesOf (Ones.cons rfl (Ones.cons rfl (Ones.cons rfl (Ones.cons rfl Ones.nil))))) rfl rfl rfl) rfl ?_ ?_
 rintro _ _ _ - ⟨rfl, rfl⟩
 refine ⟨(StabL.st (StabA.of rfl (PO.extract rfl rfl) rfl) (StabL.anc rfl (StabL.anc rfl (StabL.anc rfl (StabL.anc rfl (StabL.anc rfl trivial)))))), ?_⟩
 refine Tp (.int .u64 r57) rfl (PO.assign rfl) rfl ?_
 refine WT.fin ?_
 refine WQ.f2 ?_
 refine WQ.f2 ?_
 obtain rfl := Option.some.inj h
 refine WQ.thenJ ?_
 exact ⟨g50, (hle54.trans hle60), rfl, (hρ 0), rfl, rfl, rfl, rfl⟩
 exact WT.no
 exact WT.no
 exact WT.no
 exact WT.no
 obtain ⟨x24, x25⟩ := j26
 rintro ρ26 M26 H26 ⟨g23, hle26, rfl, hs26_0, hs26_4, hs26_6, hs26_8, hs26_9⟩
 have h0 := h0.mono hle26
 refine WC.seq ?_
 refine Sr ?_
 refine Pu (pt g23 1) (PO.fieldAddr fo29_1 hs26_8 rfl) rfl ?_
 refine Pu (.int .i64 x24.Code) (PO.loadB 2 pl27 rfl rfl rfl) rfl ?_
 refine Pu (.bool (decide (x24.Code ≠ 0))) (PO.neq rfl rfl) rfl ?_
 refine Nt ?_
 refine WC.cond (b := decide (x24.Code ≠ 0)) rfl (fun hb63 => ?_) (fun hb63 => ?_)
 have h := ite_t hb63 h
 refine Sr ?_
 refine Pu (a29_ x24) (PO.loadBA (cs := (l29 x24)) 2 ag29 sz29 hs26_8 rfl rfl) rfl ?_
 refine WL.eff (EO.storeL (v := (a29_ x24)) (vl := (l29 x24)) (arr' := (l29 x24)) rfl sz29 hs26_6 rfl (onesOf (Ones.cons rfl (Ones.cons rfl (Ones.cons rfl (Ones.cons rfl Ones.nil))))) rfl rfl rfl) rfl ?_
 rintro _ _ _ - ⟨rfl, rfl⟩
 refine Pa (.slice none 0 0) rfl rfl ?_
 refine Nt ?_
 refine WC.ret ?_
 refine WQ.thenR ?_
 refine WQ.f1 ?_
 refine WQ.drop ?_
 refine WQ.f1 ?_
 refine WQ.drop ?_
 exact WQ.returnsD h [] (fun _ hs => hs.drop) (resultsLN rfl (RVs.cons (RV.cellA (cs := (l29 x24)) 0 ag29 sz29 hs26_6 rfl rfl) (RVs.cons (RV.tmp rfl) RVs.nil))) hle26 ⟨(.slice none 0 0), rfl, rfl, RS.nil _ _⟩
 have h := ite_f hb63 h
 refine WC.skip ?_
 refine WQ.thenC ?_
 refine WC.seq ?_
 refine Sr ?_
 refine Pm v0 hs26_0 rfl ?_
 refine Pu (.int .i64 (a0.length : Int)) (PO.lenS Tryz.underlying22 rfl h0.len) rfl ?_
 refine Pu (pt g23 0) (PO.fieldAddr fo29_0 hs26_8 rfl) rfl ?_
 refine Pu (.int .i64 x24.At) (PO.loadB 2 pl3 rfl rfl rfl) rfl ?_
 refine Pu (.int .i64 (IntKind.i64.wrap ((a0.length : Int) - x24.At))) (PO.sub rfl rfl) rfl ?_
 refine Pu (.int .u64 (IntKind.u64.wrap (IntKind.i64.wrap ((a0.length : Int) - x24.At)))) (PO.conv us3 Tryz.underlying90 rfl) rfl ?_
 refine Pm (.int .u64 x25) hs26_9 rfl ?_
 refine Pu (.bool (decide ((IntKind.u64.wrap (IntKind.i64.wrap ((a0.length : Int) - x24.At))) < x25))) (PO.lss rfl rfl) rfl ?_
 refine Nt ?_
 refine WC.cond (b := decide ((IntKind.u64.wrap (IntKind.i64.wrap ((a0.length : Int) - x24.At))) < x25)) rfl (fun hb64 => ?_) (fun hb64 => ?_)
 have h := ite_t hb64 h
 refine Sr ?_
 refine Pu (pt g21 0) (PO.fieldAddr fo29_0 hs26_4 rfl) rfl ?_
 refine Pu (.int .i64 a1.At) (PO.loadB 1 pl3 rfl rfl rfl) rfl ?_
 refine Pu (.agg #[(.int .i64 a1.At), (.int .i64 0), (.string ⟨#[]⟩), (.int .i64 0)]) (PO.buildL (cl := [(.int .i64 a1.At), (.int .i64 0), (.string ⟨#[]⟩), (.int .i64 0)]) ze29 fp29 (Parts.cons (congrArg Value.cells (show ev _ _ = (.int .i64 a1.At) from rfl)) Parts.nil) rfl) rfl ?_
 refine Pu (pt g21 0) (PO.fieldAddr fo29_0 hs26_4 rfl) rfl ?_
 refine Pu (.int .i64 a1.At) (PO.loadB 1 pl3 rfl rfl rfl) rfl ?_
 obtain ⟨r65, hr66, h⟩ := bnd h
 refine WL.eff (EO.call0 co70 (f_ref02_bad_ok (⟨a1.At, (0 : Int), (⟨#[]⟩ : ByteArray), (0 : Int)⟩ : T_ref02_State) (⟨#[116, 101, 120, 116]⟩ : ByteArray) a1.At (3 : Int) _ r65 hr66) (args4 rfl rfl rfl rfl)) rfl ?_
 rintro _ M67 _ hle68 ⟨_, ⟨rfl, rfl⟩, rfl⟩
 have h0 := h0.mono hle68
 refine WL.a0 ?_
 refine WL.eff (EO.storeL (v := (a29_ r65)) (vl := (l29 r65)) (arr' := (l29 r65)) rfl sz29 hs26_6 rfl (onesOf (Ones.cons rfl (Ones.cons rfl (Ones.cons rfl (Ones.cons rfl Ones.nil))))) rfl rfl rfl) rfl ?_
 rintro _ _ _ - ⟨rfl, rfl⟩
 refine Pa (.slice none 0 0) rfl rfl ?_
 refine Nt ?_
 refine WC.ret ?_
 refine WQ.thenR ?_
 refine WQ.f1 ?_
 refine WQ.drop ?_
 refine WQ.f1 ?_
 refine WQ.drop ?_
 exact WQ.returnsD h [] (fun _ hs => hs.drop) (resultsLN rfl (RVs.cons (RV.cellA (cs := (l29 r65)) 0 ag29 sz29 hs26_6 rfl rfl) (RVs.cons (RV.tmp rfl) RVs.nil))) (hle26.trans hle68) ⟨(.slice none 0 0), rfl, rfl, RS.nil _ _⟩
 have h := ite_f hb64 h
 refine WC.skip ?_
 refine WQ.thenC ?_
 refine WC.seq ?_
 refine WC.draw [0, 1, 0, 4, 15, 31, 0, 0, 128, 0, 512, 0, 2048, 7680, 16320, 63, 65535] (.pure 0 (.pure 1 (.pure 2 (.pure 3 (.pure 4 (.pure 5 (.pure 6 (.pure 7 (.pure 8 (.pure 9 (.pure 10 (.pure 11 (.pure 12 (.pure 13 (.pure 14 (.alt 15 (.pure 16 .done) .none)))))))))))))))) mixed (by kernel_rfl) ?_
 refine Tp (pt g23 0) rfl (PO.fieldAddr fo29_0 hs26_8 rfl) rfl ?_
 refine Tp (.int .i64 x24.At) rfl (PO.loadB 2 pl3 rfl rfl rfl) rfl ?_
 refine Tp (.int .u64 x25) rfl (PO.move hs26_9) rfl ?_
 refine Tp (.int .i64 (IntKind.i64.wrap x25)) rfl (PO.conv us90 Tryz.underlying3 rfl) rfl ?_
 refine Tp (.int .i64 (IntKind.i64.wrap (x24.At + (IntKind.i64.wrap x25)))) rfl (PO.add rfl rfl) rfl ?_
 refine Tp (.agg #[(.int .i64 (IntKind.i64.wrap (x24.At + (IntKind.i64.wrap x25)))), (.int .i64 0), (.string ⟨#[]⟩), (.int .i64 0)]) rfl (PO.buildL (cl := [(.int .i64 (IntKind.i64.wrap (x24.At + (IntKind.i64.wrap x25)))), (.int .i64 0), (.string ⟨#[]⟩), (.int .i64 0)]) ze29 fp29 (Parts.cons (congrArg Value.cells (show ev _ _ = (.int .i64 (IntKind.i64.wrap (x24.At + (IntKind.i64.wrap x25)))) from rfl)) Parts.nil) rfl) rfl ?_
 refine Tp v0 rfl (PO.move hs26_0) rfl ?_
 refine Tp (pt g23 0) rfl (PO.fieldAddr fo29_0 hs26_8 rfl) rfl ?_
 refine Tp (.int .i64 x24.At) rfl (PO.loadB 2 pl3 rfl rfl rfl) rfl ?_
 refine Tp (pt g23 0) rfl (PO.fieldAddr fo29_0 hs26_8 rfl) rfl ?_
 refine Tp (.int .i64 x24.At) rfl (PO.loadB 2 pl3 rfl rfl rfl) rfl ?_
 refine Tp (.int .u64 x25) rfl (PO.move hs26_9) rfl ?_
 refine Tp (.int .i64 (IntKind.i64.wrap x25)) rfl (PO.conv us90 Tryz.underlying3 rfl) rfl ?_
 refine Tp (.int .i64 (IntKind.i64.wrap (x24.At + (IntKind.i64.wrap x25)))) rfl (PO.add rfl rfl) rfl ?_
 obtain ⟨hg70, h⟩ := grd_i h
 have h71 := h0.sub hg70.1 hg70.2.1 hg70.2.2
 refine Tp (slV v0 1 (x24.At).toNat (IntKind.i64.wrap (x24.At + (IntKind.i64.wrap x25))).toNat) rfl (PO.slice (n := a0.length) (l := (x24.At).toNat) (h := (IntKind.i64.wrap (x24.At + (IntKind.i64.wrap x25))).toNat) Tryz.underlying22 sz5 rfl h0.len h0.cap ⟨_, _, rfl, hg70.1, rfl⟩ ⟨_, _, rfl, (Int.le_trans hg70.1 hg70.2.1), rfl⟩ (Int.toNat_le_toNat hg70.2.1) (toNat_le_len hg70.2.2)) rfl ?_
 refine WT.alt rfl (EO.storeL (v := (.agg #[(.int .i64 (IntKind.i64.wrap (x24.At + (IntKind.i64.wrap x25)))), (.int .i64 0), (.string ⟨#[]⟩), (.int .i64 0)])) (vl := [(.int .i64 (IntKind.i64.wrap (x24.At + (IntKind.i64.wrap x25)))), (.int .i64 0), (.string ⟨#[]⟩), (.int .i64 0)]) (arr' := [(.int .i64 (IntKind.i64.wrap (x24.At + (IntKind.i64.wrap x25)))), (.int .i64 0), (.string ⟨#[]⟩), (.int .i64 0)]) rfl sz29 hs26_6 rfl (onesOf (Ones.cons rfl (Ones.cons rfl (Ones.cons rfl (Ones.cons rfl Ones.nil))))) rfl rfl rfl) rfl ?_ ?_
 rintro _ _ _ - ⟨rfl, rfl⟩
 refine ⟨(StabL.st (StabA.of rfl (PO.slice (n := a0.length) (l := (x24.At).toNat) (h := (IntKind.i64.wrap (x24.At + (IntKind.i64.wrap x25))).toNat) Tryz.underlying22 sz5 rfl h0.len h0.cap ⟨_, _, rfl, hg70.1, rfl⟩ ⟨_, _, rfl, (Int.le_trans hg70.1 hg70.2.1), rfl⟩ (Int.toNat_le_toNat hg70.2.1) (toNat_le_len hg70.2.2)) rfl) (StabL.st (StabA.of rfl (PO.add rfl rfl) rfl) (StabL.st (StabA.of rfl (PO.conv us90 Tryz.underlying3 rfl) rfl) (StabL.st (StabA.of rfl (PO.move hs26_9) rfl) (StabL.st (StabA.of rfl (PO.loadB 2 pl3 rfl rfl rfl) rfl) (StabL.st (StabA.of rfl (PO.fieldAddr fo29_0 hs26_8 rfl) rfl) (StabL.st (StabA.of rfl (PO.loadB 2 pl3 rfl rfl rfl) rfl) (StabL.st (StabA.of rfl (PO.fieldAddr fo29_0 hs26_8 rfl) rfl) (StabL.st (StabA.of rfl (PO.move hs26_0) rfl) (StabL.anc rfl (StabL.anc rfl (StabL.anc rfl (StabL.anc rfl (StabL.anc rfl (StabL.anc rfl trivial))))))))))))))), ?_⟩
 refine Tp (slV v0 1 (x24.At).toNat (IntKind.i64.wrap (x24.At + (IntKind.i64.wrap x25))).toNat) rfl (PO.assign rfl) rfl ?_
 refine WT.fin ?_
 refine WQ.thenC ?_
 refine WC.ret ?_
 refine WQ.f1 ?_
 refine WQ.drop ?_
 refine WQ.f1 ?_
 refine WQ.drop ?_
 exact WQ.returnsD h [] (fun _ hs => hs.drop) (resultsLN rfl (RVs.cons (RV.cellA (cs := [(.int .i64 (IntKind.i64.wrap (x24.At + (IntKind.i64.wrap x25)))), (.int .i64 0), (.string ⟨#[]⟩), (.int .i64 0)]) 0 ag29 sz29 hs26_6 rfl rfl) (RVs.cons (RV.tmp rfl) RVs.nil))) hle26 ⟨(slV v0 1 (x24.At).toNat (IntKind.i64.wrap (x24.At + (IntKind.i64.wrap x25))).toNat), rfl, rfl, h71⟩
 exact WT.no


end Go.Proofs.YtafkdjljkolehaaGreatDoor.G
