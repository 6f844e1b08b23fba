/- Go functions: what they come to, and that they do. Printed by a program of the session (gen). -/
import Derived.Test.YtafkdjljkolehaaGreatDoorBF
import Derived.Test.YtafkdjljkolehaaGreatDoorB16
import Derived.Test.YtafkdjljkolehaaGreatDoorKConv
set_option linter.unusedVariables false
set_option linter.unusedSimpArgs false
set_option maxHeartbeats 8000000
set_option maxRecDepth 100000
namespace Go.Proofs.YtafkdjljkolehaaGreatDoor.G
open Go Go.KK

noncomputable def f_fault_Under_l0 (a1 : ByteArray) (r22 : (List ByteArray)) (s_ : Int) : Option (Int ⊕ (Unit ⊕ Unit)) :=
  match s_ with
  | x28 =>
    (if (decide (x28 < (r22.length : Int))) = true then (grd (0 ≤ x28 ∧ x28 < r22.length) (if (decide ((rd r22 x28) = a1)) = true then (some (Sum.inr (Sum.inr ()))) else (some (Sum.inl (IntKind.i64.wrap (x28 + (1 : Int))))))) else (some (Sum.inr (Sum.inl ()))))
noncomputable def f_fault_Under (a0 : GErr) (a1 : ByteArray) : Option Bool :=
  ((((f_fault_Path a0).bind fun (r22 : (List ByteArray)) => ((iter (f_fault_Under_l0 a1 r22) (0 : Int)).bind (Sum.elim (fun _ => (some (Sum.inl ()))) (fun _ => (((some true)).bind fun r => some (Sum.inr r)))))) : Option (Unit ⊕ Bool)).bind (Sum.elim (fun _ => (some false)) some))
def f_fault_Under_post (a0 : GErr) (a1 : ByteArray) : Bool → Value → IM → HL → Prop :=
  fun (r0 : Bool) (v : Value) (M' : IM) (H' : HL) => (.bool r0) = v ∧ H' = []
theorem f_fault_Under_ok (a0 : GErr) (a1 : ByteArray) (M : IM) (hE : Env M) (res : Bool) (h : f_fault_Under a0 a1 = some res) :
    Tri Tryz.prog 41 #[(GV a0), (.string a1)] M [] (f_fault_Under_post a0 a1 res) := by
 unfold f_fault_Under at h
 refine Tri.enter (fn := Tryz.f41) Tryz.func41 rfl (Nat.le_of_ble_eq_true rfl) ?_
 intro F ρ hρ
 refine Sr ?_
 refine Pa (.bool false) rfl rfl ?_
 refine Nt ?_
 obtain ⟨j21, hj21, h⟩ := bnd h
 refine WC.joinE (fun (_ : Unit) ρ' M' H' => M.le M' ∧ F = H') j21 ?_ ?_
 have h321 := h
 have h := hj21
 refine Sr ?_
 refine Pm (GV a0) (hρ 0) rfl ?_
 obtain ⟨r22, hr23, h⟩ := bnd h
 refine WL.eff (EO.call0 co71 (f_fault_Path_ok a0 _ hE r22 hr23) (args1 rfl)) rfl ?_
 rintro _ M24 _ hle25 ⟨_, ⟨vq26, cq26, rfl, rfl, hq26⟩, rfl⟩
 have hE := hE.mono hle25
 refine WL.a1 ?_
 refine Pu (.int .i64 (r22.length : Int)) (PO.lenS Tryz.underlying106 rfl hq26.len) rfl ?_
 refine Pm (.int .i64 0) rfl rfl ?_
 refine Nt ?_
 refine WC.block ?_
 obtain ⟨e27, he27, hK27⟩ := bnd h
 clear h
 refine WC.loop he27 (fun (x28 : Int) ρ' M' H' => M24.le M' ∧ cq26 :: F = H' ∧ ρ' 1 = (.string a1) ∧ ρ' 8 = vq26 ∧ ρ' 9 = (.int .i64 (r22.length : Int)) ∧ ρ' 10 = (.int .i64 x28)) ?_ ?_
 exact ⟨(IM.le.refl _), rfl, (hρ 1), rfl, rfl, rfl⟩
 rintro x28 o27 ρ27 M27 H27 h ⟨hle27, rfl, hs27_1, hs27_8, hs27_9, hs27_10⟩
 unfold f_fault_Under_l0 at h
 have hq26 := hq26.mono hle27
 have hE := hE.mono hle27
 refine Sr ?_
 refine Pu (.bool (decide (x28 < (r22.length : Int)))) (PO.lss hs27_10 hs27_9) rfl ?_
 refine Nt ?_
 refine WC.seq ?_
 refine WC.cond (b := decide (x28 < (r22.length : Int))) rfl (fun hb29 => ?_) (fun hb29 => ?_)
 have h := ite_t hb29 h
 refine WC.skip ?_
 refine WQ.thenC ?_
 refine WC.seq ?_
 refine WC.block ?_
 refine Sr ?_
 obtain ⟨hg30, h⟩ := grd_i h
 obtain ⟨p31, cs32, hat33, hrc34, hhas35⟩ := hq26.at hg30.1 hg30.2
 obtain rfl := hrc34
 refine Pu (.pointer (some p31)) (PO.indexAddr (n := r22.length) Tryz.underlying106 sz9 hs27_8 hs27_10 hg30.1 hg30.2 hat33) rfl ?_
 refine Pu (.string (rd r22 x28)) (PO.loadC 0 pl9 rfl rfl (chunkHas0 hhas35)) rfl ?_
 refine Pa (.string (rd r22 x28)) rfl rfl ?_
 refine Ns ?_
 refine Pm (.string (rd r22 x28)) rfl rfl ?_
 refine Pm (.string a1) hs27_1 rfl ?_
 refine Pu (.bool (decide ((rd r22 x28) = a1))) (PO.seql rfl rfl) rfl ?_
 refine Nt ?_
 refine WC.cond (b := decide ((rd r22 x28) = a1)) rfl (fun hb37 => ?_) (fun hb37 => ?_)
 have h := ite_t hb37 h
 refine Sr ?_
 refine Pa (.bool true) rfl rfl ?_
 refine Nt ?_
 refine WC.ret ?_
 refine WQ.blockR ?_
 refine WQ.thenR ?_
 refine WQ.leaveR (Sum.inr ()) (Option.some.inj h).symm (fun heq27 => ?_)
 subst heq27
 have h := (elimR hK27)
 refine WQ.blockR ?_
 refine WQ.thenR ?_
 have h := KK.early h h321
 refine WQ.drop ?_
 exact WQ.returnsF h [] rfl (results1 rfl rfl) (hle25.trans hle27) ⟨rfl, rfl⟩
 have h := ite_f hb37 h
 refine WC.skip ?_
 refine WQ.blockN ?_
 refine WQ.thenC ?_
 refine WC.region ?_
 refine Pu (.int .i64 (IntKind.i64.wrap (x28 + 1))) (PO.add hs27_10 rfl) rfl ?_
 refine Pm (.int .i64 (IntKind.i64.wrap (x28 + 1))) rfl rfl ?_
 refine WL.nil ?_
 refine WQ.again (IntKind.i64.wrap (x28 + 1)) (Option.some.inj h).symm ?_
 exact ⟨hle27, rfl, hs27_1, hs27_8, hs27_9, rfl⟩
 have h := ite_f hb29 h
 refine WC.exit ?_
 refine WQ.thenE ?_
 refine WQ.leaveE (Sum.inl ()) (Option.some.inj h).symm (fun heq27 => ?_)
 subst heq27
 have h := elimL hK27
 refine WQ.blockH ?_
 refine WQ.drop ?_
 refine WQ.thenFE h ?_
 exact ⟨(hle25.trans hle27), rfl⟩
 rintro _ ρ21 M21 H21 rfl ⟨hle21, rfl⟩
 have h := (Sum.elim_inl _ _ _).symm.trans h
 have hE := hE.mono hle21
 refine Sr ?_
 refine Pa (.bool false) rfl rfl ?_
 refine Nt ?_
 refine WC.ret ?_
 exact WQ.returnsF h [] rfl (results1 rfl rfl) hle21 ⟨rfl, rfl⟩

noncomputable def f_law05_wrong (a0 : GErr) (a1 : T_ref05_Wrong) : Option Bool :=
  (if a0.isNil = true then (some (decide (a1.Code = (0 : Int)))) else ((f_fault_Where a0).bind fun (r23, r24) => ((((f_fault_Of a0).bind fun (r32 : Int) => (if (decide (r32 = a1.Code)) = true then (if r24 = true then (if (decide (r23 = a1.At)) = true then ((f_fault_Under a0 a1.Op).bind fun (r40 : Bool) => (some r40)) else (some false)) else (some false)) else (some false))) : Option Bool).bind fun (x30 : Bool) => (some x30))))
def f_law05_wrong_post (a0 : GErr) (a1 : T_ref05_Wrong) : Bool → Value → IM → HL → Prop :=
  fun (r0 : Bool) (v : Value) (M' : IM) (H' : HL) => (.bool r0) = v ∧ H' = []
theorem f_law05_wrong_ok (a0 : GErr) (a1 : T_ref05_Wrong) (M : IM) (hE : Env M) (res : Bool) (h : f_law05_wrong a0 a1 = some res) :
    Tri Tryz.prog 11 #[(GV a0), (a44_ a1)] M [] (f_law05_wrong_post a0 a1 res) := by
 unfold f_law05_wrong at h
 refine Tri.enter (fn := Tryz.f11) Tryz.func11 rfl (Nat.le_of_ble_eq_true rfl) ?_
 intro F ρ hρ
 refine Sr ?_
 refine WL.eff (EO.box (cs := (l44 a1).toArray) (congrArg Value.cells (asE (a44_ a1) (hρ 1)))) rfl ?_
 rintro _ _ _ - ⟨rfl, g21, rfl, rfl⟩
 refine Pa (.bool false) rfl rfl ?_
 refine Nt ?_
 refine WC.seq ?_
 refine Sr ?_
 refine Pm (GV a0) (hρ 0) rfl ?_
 refine Pu (.bool a0.isNil) (PO.errNil Tryz.underlying41 rfl) rfl ?_
 refine Nt ?_
 refine WC.cond (b := a0.isNil) rfl (fun hb22 => ?_) (fun hb22 => ?_)
 have h := ite_t hb22 h
 refine Sr ?_
 refine Pu (pt g21 2) (PO.fieldAddr fo44_2 rfl rfl) rfl ?_
 refine Pu (.int .i64 a1.Code) (PO.loadB 0 pl27 rfl rfl rfl) rfl ?_
 refine Pu (.bool (decide (a1.Code = 0))) (PO.eql rfl rfl) rfl ?_
 refine Pa (.bool (decide (a1.Code = 0))) rfl rfl ?_
 refine Nt ?_
 refine WC.ret ?_
 refine WQ.thenR ?_
 refine WQ.drop ?_
 exact WQ.returnsF h [] rfl (results1 rfl rfl) (IM.le.refl _) ⟨rfl, rfl⟩
 have h := ite_f hb22 h
 refine WC.skip ?_
 refine WQ.thenC ?_
 refine Sr ?_
 refine Pm (GV a0) (hρ 0) rfl ?_
 obtain ⟨⟨r23, r24⟩, hr25, h⟩ := bnd h
 refine WL.eff (EO.call0 co40 (f_fault_Where_ok a0 _ hE (r23, r24) hr25) (args1 rfl)) rfl ?_
 rintro _ M26 _ hle27 ⟨_, ⟨rfl, rfl⟩, rfl⟩
 have hE := hE.mono hle27
 refine WL.a0 ?_
 refine Pm (.tuple #[(.int .i64 r23), (.bool r24)]) rfl rfl ?_
 refine Pu (.int .i64 r23) (PO.extract rfl rfl) rfl ?_
 refine Pu (.bool r24) (PO.extract rfl rfl) rfl ?_
 refine Pa (.int .i64 r23) rfl rfl ?_
 refine Pa (.bool r24) rfl rfl ?_
 refine Nt ?_
 obtain ⟨x30, hj31, h⟩ := bnd h
 refine WC.joinF (fun (x30 : Bool) ρ' M' H' => M26.le M' ∧ [(g21, .cells (l44 a1).toArray 44 (0, 0))] :: F = H' ∧ ρ' 4 = (.bool x30)) x30 ?_ ?_
 have h331 := h
 have h := hj31
 refine WC.draw [0, 1, 0, 4, 15, 31, 63, 127, 255, 511, 511, 1535, 4095, 8191, 16383, 32767, 32767, 98303, 262143, 524287, 1048575] (.pure 0 (.pure 2 (.pure 3 (.alt 1 (.pure 4 (.pure 5 (.pure 6 (.pure 7 (.pure 8 (.pure 9 (.pure 10 (.pure 11 (.pure 12 (.pure 13 (.pure 14 (.pure 15 (.pure 16 (.pure 17 (.alt 18 (.pure 19 (.pure 20 .done)) .none))))))))))))))) .none)))) mixed (by kernel_rfl) ?_
 refine Tp (GV a0) rfl (PO.move (hρ 0)) rfl ?_
 refine Tp (pt g21 2) rfl (PO.fieldAddr fo44_2 rfl rfl) rfl ?_
 refine Tp (.int .i64 a1.Code) rfl (PO.loadB 0 pl27 rfl rfl rfl) rfl ?_
 obtain ⟨r32, hr33, h⟩ := bnd h
 refine WT.alt rfl (EO.call0 co30 (f_fault_Of_ok a0 _ hE r32 hr33) (args1 rfl)) rfl ?_ ?_
 rintro _ M34 _ hle35 ⟨_, ⟨rfl, rfl⟩, rfl⟩
 have hE := hE.mono hle35
 refine ⟨(StabL.st (StabA.of rfl (PO.loadB 0 pl27 rfl rfl rfl) rfl) (StabL.st (StabA.of rfl (PO.fieldAddr fo44_2 rfl rfl) rfl) (StabL.anc rfl trivial))), ?_⟩
 refine WT.a0 ?_
 refine Tp (.bool (decide (r32 = a1.Code))) rfl (PO.eql rfl rfl) rfl ?_
 refine Tp (.bool (decide (r32 = a1.Code))) rfl (PO.move rfl) rfl ?_
 rcases Bool.eq_false_or_eq_true (decide (r32 = a1.Code)) with hb37 | hb37
 have h := ite_t hb37 h
 refine Tn (.bool r24) 22 rfl rfl rfl hb37 (PO.move rfl) rfl ?_
 refine Tp (.bool r24) rfl (PO.pickT rfl hb37 rfl) rfl ?_
 refine Tp (.bool r24) rfl (PO.move rfl) rfl ?_
 rcases Bool.eq_false_or_eq_true (r24) with hb38 | hb38
 have h := ite_t hb38 h
 refine Tn (.int .i64 r23) 25 rfl rfl rfl hb38 (PO.move rfl) rfl ?_
 refine Tn (pt g21 1) 25 rfl rfl rfl hb38 (PO.fieldAddr fo44_1 rfl rfl) rfl ?_
 refine Tn (.int .i64 a1.At) 25 rfl rfl rfl hb38 (PO.loadB 0 pl3 rfl rfl rfl) rfl ?_
 refine Tn (.bool (decide (r23 = a1.At))) 25 rfl rfl rfl hb38 (PO.eql rfl rfl) rfl ?_
 refine Tp (.bool (decide (r23 = a1.At))) rfl (PO.pickT rfl hb38 rfl) rfl ?_
 refine Tp (.bool (decide (r23 = a1.At))) rfl (PO.move rfl) rfl ?_
 rcases Bool.eq_false_or_eq_true (decide (r23 = a1.At)) with hb39 | hb39
 have h := ite_t hb39 h
 refine Tn (GV a0) 31 rfl rfl rfl hb39 (PO.move (hρ 0)) rfl ?_
 refine Tn (pt g21 0) 31 rfl rfl rfl hb39 (PO.fieldAddr fo44_0 rfl rfl) rfl ?_
 refine Tn (.string a1.Op) 31 rfl rfl rfl hb39 (PO.loadB 0 pl9 rfl rfl rfl) rfl ?_
 obtain ⟨r40, hr41, h⟩ := bnd h
 refine WT.altOn 31 rfl rfl rfl hb39 (EO.call0 co41 (f_fault_Under_ok a0 a1.Op _ hE r40 hr41) (args2 rfl rfl)) rfl ?_ ?_
 rintro _ M42 _ hle43 ⟨_, ⟨rfl, rfl⟩, rfl⟩
 have hE := hE.mono hle43
 refine ⟨(StabL.anc rfl (StabL.anc rfl (StabL.anc rfl (StabL.anc rfl (StabL.anc rfl (StabL.anc rfl (StabL.anc rfl (StabL.anc rfl (StabL.anc rfl (StabL.anc rfl (StabL.anc rfl (StabL.anc rfl (StabL.anc rfl (StabL.anc rfl (StabL.anc rfl (StabL.anc rfl (StabL.anc rfl trivial))))))))))))))))), ?_⟩
 refine WT.a0 ?_
 refine Tp (.bool r40) rfl (PO.pickT rfl hb39 rfl) rfl ?_
 refine Tp (.bool r40) rfl (PO.assign rfl) rfl ?_
 refine WT.fin ?_
 obtain rfl := Option.some.inj h
 refine WQ.thenJ ?_
 exact ⟨(hle35.trans hle43), rfl, rfl⟩
 exact WT.no
 have h := ite_f hb39 h
 refine WT.pureOff 31 rfl rfl rfl hb39 rfl ?_
 refine WT.pureOff 31 rfl rfl rfl hb39 rfl ?_
 refine WT.pureOff 31 rfl rfl rfl hb39 rfl ?_
 refine WT.altOff 31 rfl rfl rfl hb39 rfl ⟨(StabL.anc rfl (StabL.anc rfl (StabL.anc rfl (StabL.anc rfl (StabL.anc rfl (StabL.anc rfl (StabL.anc rfl (StabL.anc rfl (StabL.anc rfl (StabL.anc rfl (StabL.anc rfl (StabL.anc rfl (StabL.anc rfl (StabL.anc rfl (StabL.anc rfl (StabL.anc rfl (StabL.anc rfl trivial))))))))))))))))), ?_⟩ ?_
 refine Tp (.bool false) rfl (PO.pickF rfl hb39 rfl) rfl ?_
 refine Tp (.bool false) rfl (PO.assign rfl) rfl ?_
 refine WT.fin ?_
 obtain rfl := Option.some.inj h
 refine WQ.thenJ ?_
 exact ⟨hle35, rfl, rfl⟩
 exact WT.no
 have h := ite_f hb38 h
 refine WT.pureOff 25 rfl rfl rfl hb38 rfl ?_
 refine WT.pureOff 25 rfl rfl rfl hb38 rfl ?_
 refine WT.pureOff 25 rfl rfl rfl hb38 rfl ?_
 refine WT.pureOff 25 rfl rfl rfl hb38 rfl ?_
 refine Tp (.bool false) rfl (PO.pickF rfl hb38 rfl) rfl ?_
 refine Tp (.bool false) rfl (PO.move rfl) rfl ?_
 refine WT.pureOff 31 rfl rfl rfl rfl rfl ?_
 refine WT.pureOff 31 rfl rfl rfl rfl rfl ?_
 refine WT.pureOff 31 rfl rfl rfl rfl rfl ?_
 refine WT.altOff 31 rfl rfl rfl rfl rfl ⟨(StabL.anc rfl (StabL.anc rfl (StabL.anc rfl (StabL.anc rfl (StabL.anc rfl (StabL.anc rfl (StabL.anc rfl (StabL.anc rfl (StabL.anc rfl (StabL.anc rfl (StabL.anc rfl (StabL.anc rfl (StabL.anc rfl (StabL.anc rfl (StabL.anc rfl (StabL.anc rfl (StabL.anc rfl trivial))))))))))))))))), ?_⟩ ?_
 refine Tp (.bool false) rfl (PO.pickF rfl rfl rfl) rfl ?_
 refine Tp (.bool false) rfl (PO.assign rfl) rfl ?_
 refine WT.fin ?_
 obtain rfl := Option.some.inj h
 refine WQ.thenJ ?_
 exact ⟨hle35, rfl, rfl⟩
 exact WT.no
 have h := ite_f hb37 h
 refine WT.pureOff 22 rfl rfl rfl hb37 rfl ?_
 refine Tp (.bool false) rfl (PO.pickF rfl hb37 rfl) rfl ?_
 refine Tp (.bool false) rfl (PO.move rfl) rfl ?_
 refine WT.pureOff 25 rfl rfl rfl rfl rfl ?_
 refine WT.pureOff 25 rfl rfl rfl rfl rfl ?_
 refine WT.pureOff 25 rfl rfl rfl rfl rfl ?_
 refine WT.pureOff 25 rfl rfl rfl rfl rfl ?_
 refine Tp (.bool false) rfl (PO.pickF rfl rfl rfl) rfl ?_
 refine Tp (.bool false) rfl (PO.move rfl) rfl ?_
 refine WT.pureOff 31 rfl rfl rfl rfl rfl ?_
 refine WT.pureOff 31 rfl rfl rfl rfl rfl ?_
 refine WT.pureOff 31 rfl rfl rfl rfl rfl ?_
 refine WT.altOff 31 rfl rfl rfl rfl rfl ⟨(StabL.anc rfl (StabL.anc rfl (StabL.anc rfl (StabL.anc rfl (StabL.anc rfl (StabL.anc rfl (StabL.anc rfl (StabL.anc rfl (StabL.anc rfl (StabL.anc rfl (StabL.anc rfl (StabL.anc rfl (StabL.anc rfl (StabL.anc rfl (StabL.anc rfl (StabL.anc rfl (StabL.anc rfl trivial))))))))))))))))), ?_⟩ ?_
 refine Tp (.bool false) rfl (PO.pickF rfl rfl rfl) rfl ?_
 refine Tp (.bool false) rfl (PO.assign rfl) rfl ?_
 refine WT.fin ?_
 obtain rfl := Option.some.inj h
 refine WQ.thenJ ?_
 exact ⟨hle35, rfl, rfl⟩
 exact WT.no
 exact WT.no
 rintro ρ31 M31 H31 ⟨hle31, rfl, hs31_4⟩
 have hE := hE.mono hle31
 refine WC.ret ?_
 refine WQ.drop ?_
 exact WQ.returnsF h [] rfl (results1 rfl hs31_4) (hle27.trans hle31) ⟨rfl, rfl⟩

noncomputable def f_law05_RecordReads_l0 (a0 : (List Int)) (a1 : Int) (r27 : T_wire_Reader) (s_ : (Int × Int × GErr × Int × Int × ByteArray × Int)) : Option ((Int × Int × GErr × Int × Int × ByteArray × Int) ⊕ ((Int × Int × ByteArray × Int × Int × GErr) ⊕ (Int × Int × ByteArray × Int × Int × GErr))) :=
  match s_ with
  | (x42, x43, x44, x45, x46, x47, x48) =>
    (if (decide (x42 < ((IntKind.i64.wrap a1).tmod (9 : Int)))) = true then ((((f_record_Read (⟨r27.b, x43, x44⟩ : T_wire_Reader)).bind fun (r70, r71, r72) => ((f_ref05_Read (⟨a0, (⟨x45, x46, x47, x48⟩ : T_ref02_State)⟩ : T_ref05_Cursor)).bind fun (r77, r78, r79, r80, r81) => ((f_ref05_Same r70 r77).bind fun (r86 : Bool) => (if (!r86) = true then (some (true, r78, r79, r80, r81, r71, r72)) else ((f_wire_Reader_At (⟨r27.b, r71, r72⟩ : T_wire_Reader)).bind fun (r116 : Int) => (some (decide (r116 ≠ r78), r78, r79, r80, r81, r71, r72))))))) : Option (Bool × Int × Int × ByteArray × Int × Int × GErr)).bind fun (x62, x63, x64, x65, x66, x67, x68) => (if x62 = true then (some (Sum.inr (Sum.inr (x63, x64, x65, x66, x67, x68)))) else (some (Sum.inl (IntKind.i64.wrap (x42 + (1 : Int)), x67, x68, x63, x64, x65, x66))))) else (some (Sum.inr (Sum.inl (x45, x46, x47, x48, x43, x44)))))
noncomputable def f_law05_RecordReads (a0 : (List Int)) (a1 : Int) : Option Bool :=
  (if (decide ((1500 : Int) < (a0.length : Int))) = true then ((f_law05_works).bind fun (r22 : Bool) => (some r22)) else ((f_wire_Read a0).bind fun (r27 : T_wire_Reader) => ((((iter (f_law05_RecordReads_l0 a0 a1 r27) ((0 : Int), r27.at_, r27.err, (0 : Int), (0 : Int), (⟨#[]⟩ : ByteArray), (0 : Int))).bind (Sum.elim (fun (x49, x50, x51, x52, x53, x54) => (some (Sum.inl (x49, x50, x51, x52, x53, x54)))) (fun (x55, x56, x57, x58, x59, x60) => (((some false)).bind fun r => some (Sum.inr r))))) : Option ((Int × Int × ByteArray × Int × Int × GErr) ⊕ Bool)).bind (Sum.elim (fun (x34, x35, x36, x37, x38, x39) => ((f_ref05_Cursor_End (⟨a0, (⟨x34, x35, x36, x37⟩ : T_ref02_State)⟩ : T_ref05_Cursor)).bind fun (r122, r123, r124, r125) => ((((f_wire_Reader_End (⟨r27.b, x38, x39⟩ : T_wire_Reader)).bind fun (r132, r133) => ((f_law05_wrong r132 (⟨r124, r125, r123⟩ : T_ref05_Wrong)).bind fun (r138 : Bool) => (if r138 = true then ((f_law05_works).bind fun (r144 : Bool) => (some (r144, r133))) else (some (false, r133))))) : Option (Bool × GErr)).bind fun (x129, x130) => (some x129)))) some))))
def f_law05_RecordReads_post (a0 : (List Int)) (a1 : Int) (v0 : Value) : Bool → Value → IM → HL → Prop :=
  fun (r0 : Bool) (v : Value) (M' : IM) (H' : HL) => (.bool r0) = v ∧ H' = []
theorem f_law05_RecordReads_ok (a0 : (List Int)) (a1 : Int) (M : IM) (v0 : Value) (h0 : RS (Kd.int .u8) M v0 a0) (hE : Env M) (res : Bool) (h : f_law05_RecordReads a0 a1 = some res) :
    Tri Tryz.prog 3 #[v0, (.int .u8 a1)] M [] (f_law05_RecordReads_post a0 a1 v0 res) := by
 unfold f_law05_RecordReads at h
 refine Tri.enter (fn := Tryz.f3) Tryz.func3 rfl (Nat.le_of_ble_eq_true rfl) ?_
 intro F ρ hρ
 refine Sr ?_
 refine Pa (.bool false) rfl rfl ?_
 refine Nt ?_
 refine WC.seq ?_
 refine Sr ?_
 refine Pm v0 (hρ 0) rfl ?_
 refine Pu (.int .i64 (a0.length : Int)) (PO.lenS Tryz.underlying22 rfl h0.len) rfl ?_
 refine Pu (.bool (decide ((1500 : Int) < (a0.length : Int)))) (PO.gtr rfl rfl) rfl ?_
 refine Nt ?_
 refine WC.cond (b := decide ((1500 : Int) < (a0.length : Int))) rfl (fun hb21 => ?_) (fun hb21 => ?_)
 have h := ite_t hb21 h
 refine Sr ?_
 obtain ⟨r22, hr23, h⟩ := bnd h
 refine WL.eff (EO.call0 co4 (f_law05_works_ok _ hE r22 hr23) (args0)) rfl ?_
 rintro _ M24 _ hle25 ⟨_, ⟨rfl, rfl⟩, rfl⟩
 have h0 := h0.mono hle25
 have hE := hE.mono hle25
 refine WL.a0 ?_
 refine Pa (.bool r22) rfl rfl ?_
 refine Nt ?_
 refine WC.ret ?_
 refine WQ.thenR ?_
 exact WQ.returnsF h [] rfl (results1 rfl rfl) hle25 ⟨rfl, rfl⟩
 have h := ite_f hb21 h
 refine WC.skip ?_
 refine WQ.thenC ?_
 refine Sr ?_
 refine Pm v0 (hρ 0) rfl ?_
 obtain ⟨r27, hr28, h⟩ := bnd h
 refine WL.eff (EO.call0 co5 (f_wire_Read_ok a0 _ _ h0 r27 hr28) (args1 rfl)) rfl ?_
 rintro _ M29 _ hle30 ⟨_, ⟨g31, vq32_0, rfl, rfl, hq32_0⟩, rfl⟩
 have h0 := h0.mono hle30
 have hE := hE.mono hle30
 refine WL.a1 ?_
 refine Pa (pt g31 0) rfl rfl ?_
 refine Nt ?_
 refine WC.seq ?_
 refine Sr ?_
 refine Pm (pt g31 0) rfl rfl ?_
 refine Pu (.bool false) (PO.ptrNil Tryz.underlying24 rfl) rfl ?_
 refine Nt ?_
 refine WC.condF (b := false) rfl rfl ?_
 refine WC.skip ?_
 refine WQ.thenC ?_
 refine Sr ?_
 refine Pm v0 (hρ 0) rfl ?_
 refine Pu (.agg #[v0, (.int .i64 0), (.int .i64 0), (.string ⟨#[]⟩), (.int .i64 0)]) (PO.buildL (cl := [v0, (.int .i64 0), (.int .i64 0), (.string ⟨#[]⟩), (.int .i64 0)]) ze31 fp31 (Parts.cons ((congrArg Value.cells (show ev _ _ = v0 from rfl)).trans h0.cells) Parts.nil) rfl) rfl ?_
 refine WL.eff (EO.box (cs := #[v0, (.int .i64 0), (.int .i64 0), (.string ⟨#[]⟩), (.int .i64 0)]) (congrArg Value.cells (show ev _ _ = (.agg #[v0, (.int .i64 0), (.int .i64 0), (.string ⟨#[]⟩), (.int .i64 0)]) from rfl))) rfl ?_
 rintro _ _ _ - ⟨rfl, g33, rfl, rfl⟩
 refine Pa (pt g33 0) rfl rfl ?_
 refine Nt ?_
 obtain ⟨j40, hj40, h⟩ := bnd h
 refine WC.joinE (fun (p_ : (Int × Int × ByteArray × Int × Int × GErr)) ρ' M' H' => match p_ with | (x34, x35, x36, x37, x38, x39) => M29.le M' ∧ [(g33, .cells #[v0, (.int .i64 x34), (.int .i64 x35), (.string x36), (.int .i64 x37)] 31 (0, 0))] :: [(g31, .cells #[vq32_0, (.int .i64 x38), (GV x39)] 53 (0, 0))] :: F = H' ∧ ρ' 5 = (pt g31 0) ∧ ρ' 6 = (pt g33 0)) j40 ?_ ?_
 have h340 := h
 have h := hj40
 refine Sr ?_
 refine Pa (.int .i64 0) rfl rfl ?_
 refine Nt ?_
 refine WC.block ?_
 obtain ⟨e41, he41, hK41⟩ := bnd h
 clear h
 refine WC.loop he41 (fun (p_ : (Int × Int × GErr × Int × Int × ByteArray × Int)) ρ' M' H' => match p_ with | (x42, x43, x44, x45, x46, x47, x48) => M29.le M' ∧ [(g33, .cells #[v0, (.int .i64 x45), (.int .i64 x46), (.string x47), (.int .i64 x48)] 31 (0, 0))] :: [(g31, .cells #[vq32_0, (.int .i64 x43), (GV x44)] 53 (0, 0))] :: F = H' ∧ ρ' 1 = (.int .u8 a1) ∧ ρ' 5 = (pt g31 0) ∧ ρ' 6 = (pt g33 0) ∧ ρ' 7 = (.int .i64 x42)) ?_ ?_
 exact ⟨(IM.le.refl _), rfl, (hρ 1), rfl, rfl, rfl⟩
 rintro ⟨x42, x43, x44, x45, x46, x47, x48⟩ o41 ρ41 M41 H41 h ⟨hle41, rfl, hs41_1, hs41_5, hs41_6, hs41_7⟩
 unfold f_law05_RecordReads_l0 at h
 have h0 := h0.mono hle41
 have hq32_0 := hq32_0.mono hle41
 have hE := hE.mono hle41
 refine WC.seq ?_
 refine Sr ?_
 refine Pm (.int .i64 x42) hs41_7 rfl ?_
 refine Pm (.int .u8 a1) hs41_1 rfl ?_
 refine Pu (.int .i64 (IntKind.i64.wrap a1)) (PO.conv us5 Tryz.underlying3 rfl) rfl ?_
 refine Pu (.int .i64 ((IntKind.i64.wrap a1).tmod (9 : Int))) (PO.rem rfl rfl (by decide)) rfl ?_
 refine Pu (.bool (decide (x42 < ((IntKind.i64.wrap a1).tmod (9 : Int))))) (PO.lss rfl rfl) rfl ?_
 refine Nt ?_
 refine WC.cond (b := decide (x42 < ((IntKind.i64.wrap a1).tmod (9 : Int)))) rfl (fun hb61 => ?_) (fun hb61 => ?_)
 have h := ite_t hb61 h
 refine WC.skip ?_
 refine WQ.thenC ?_
 refine WC.seq ?_
 refine WC.block ?_
 obtain ⟨j69, hj69, h⟩ := bnd h
 refine WC.joinF (fun (p_ : (Bool × Int × Int × ByteArray × Int × Int × GErr)) ρ' M' H' => match p_ with | (x62, x63, x64, x65, x66, x67, x68) => M41.le M' ∧ [(g33, .cells #[v0, (.int .i64 x63), (.int .i64 x64), (.string x65), (.int .i64 x66)] 31 (0, 0))] :: [(g31, .cells #[vq32_0, (.int .i64 x67), (GV x68)] 53 (0, 0))] :: F = H' ∧ ρ' 1 = (.int .u8 a1) ∧ ρ' 5 = (pt g31 0) ∧ ρ' 6 = (pt g33 0) ∧ ρ' 7 = (.int .i64 x42) ∧ ρ' 41 = (.bool x62)) j69 ?_ ?_
 have h369 := h
 have h := hj69
 refine WC.draw [0, 1, 0, 7, 15, 31, 63, 127, 255, 127, 639, 1663, 3711, 7807, 16383, 32767] (.pure 0 (.pure 2 (.alt 1 (.alt 3 (.alt 4 (.pure 5 (.pure 6 (.pure 7 (.pure 9 (.pure 10 (.pure 11 (.pure 12 (.pure 13 (.alt 8 (.pure 14 (.pure 15 .done)) .none))))))))) .none) .none) .none))) mixed (by kernel_rfl) ?_
 refine Tp (pt g31 0) rfl (PO.move hs41_5) rfl ?_
 refine Tp (pt g33 0) rfl (PO.move hs41_6) rfl ?_
 obtain ⟨⟨r70, r71, r72⟩, hr73, h⟩ := bnd h
 refine WT.f1 ?_
 refine WT.alt rfl (EO.call1 co7 (f_record_Read_ok (⟨r27.b, x43, x44⟩ : T_wire_Reader) _ _ _ hq32_0 hE (r70, r71, r72) hr73) (args1 rfl)) rfl ?_ ?_
 rintro _ M74 _ hle75 ⟨_, ⟨vq76_14, cq76_14, vq76_15, cq76_15, vq76_16, cq76_16, vq76_17, cq76_17, rfl, rfl, hq76_14, hq76_15, hq76_16, hq76_17⟩, rfl⟩
 have h0 := h0.mono hle75
 have hq32_0 := hq32_0.mono hle75
 have hE := hE.mono hle75
 refine ⟨(StabL.st (StabA.of rfl (PO.move hs41_6) rfl) (StabL.anc rfl trivial)), ?_⟩
 refine WT.a5 ?_
 obtain ⟨⟨r77, r78, r79, r80, r81⟩, hr82, h⟩ := bnd h
 refine WT.f5 ?_
 refine WT.alt rfl (EO.call1 co8 (f_ref05_Read_ok (⟨a0, (⟨x45, x46, x47, x48⟩ : T_ref02_State)⟩ : T_ref05_Cursor) _ _ _ h0 (r77, r78, r79, r80, r81) hr82) (args1 rfl)) rfl ?_ ?_
 rintro _ M83 _ hle84 ⟨_, ⟨vq85_14, cq85_14, vq85_15, cq85_15, vq85_16, cq85_16, vq85_17, cq85_17, rfl, rfl, hq85_14, hq85_15, hq85_16, hq85_17⟩, rfl⟩
 have hq76_14 := hq76_14.mono hle84
 have hq76_15 := hq76_15.mono hle84
 have hq76_16 := hq76_16.mono hle84
 have hq76_17 := hq76_17.mono hle84
 have h0 := h0.mono hle84
 have hq32_0 := hq32_0.mono hle84
 have hE := hE.mono hle84
 refine ⟨(StabL.anc rfl (StabL.anc rfl trivial)), ?_⟩
 refine WT.a5 ?_
 obtain ⟨r86, hr87, h⟩ := bnd h
 refine WT.f4 ?_
 refine WT.f4 ?_
 refine WT.f4 ?_
 refine WT.f4 ?_
 refine WT.f9 ?_
 refine WT.f9 ?_
 refine WT.f9 ?_
 refine WT.f9 ?_
 refine WT.alt rfl (EO.call8 co6 (Tri.lend fun w0_ H0_ hs0_ => (Tri.lend fun w1_ H1_ hs1_ => (Tri.lend fun w2_ H2_ hs2_ => (Tri.lend fun w3_ H3_ hs3_ => (Tri.lend fun w4_ H4_ hs4_ => (Tri.lend fun w5_ H5_ hs5_ => (Tri.lend fun w6_ H6_ hs6_ => (Tri.lend fun w7_ H7_ hs7_ => (f_ref05_Same_ok r70 r77 _ _ _ _ _ _ _ _ _ ((((((((hq76_14.rs hs0_).mono (IM.le_add _ _)).mono (IM.le_add _ _)).mono (IM.le_add _ _)).mono (IM.le_add _ _)).mono (IM.le_add _ _)).mono (IM.le_add _ _)).mono (IM.le_add _ _)) ((((((((hq76_15.mono (IM.le_add _ _)).rs hs1_).mono (IM.le_add _ _)).mono (IM.le_add _ _)).mono (IM.le_add _ _)).mono (IM.le_add _ _)).mono (IM.le_add _ _)).mono (IM.le_add _ _)) ((((((((hq76_16.mono (IM.le_add _ _)).mono (IM.le_add _ _)).rs hs2_).mono (IM.le_add _ _)).mono (IM.le_add _ _)).mono (IM.le_add _ _)).mono (IM.le_add _ _)).mono (IM.le_add _ _)) ((((((((hq76_17.mono (IM.le_add _ _)).mono (IM.le_add _ _)).mono (IM.le_add _ _)).rs hs3_).mono (IM.le_add _ _)).mono (IM.le_add _ _)).mono (IM.le_add _ _)).mono (IM.le_add _ _)) ((((((((hq85_14.mono (IM.le_add _ _)).mono (IM.le_add _ _)).mono (IM.le_add _ _)).mono (IM.le_add _ _)).rs hs4_).mono (IM.le_add _ _)).mono (IM.le_add _ _)).mono (IM.le_add _ _)) ((((((((hq85_15.mono (IM.le_add _ _)).mono (IM.le_add _ _)).mono (IM.le_add _ _)).mono (IM.le_add _ _)).mono (IM.le_add _ _)).rs hs5_).mono (IM.le_add _ _)).mono (IM.le_add _ _)) ((((((((hq85_16.mono (IM.le_add _ _)).mono (IM.le_add _ _)).mono (IM.le_add _ _)).mono (IM.le_add _ _)).mono (IM.le_add _ _)).mono (IM.le_add _ _)).rs hs6_).mono (IM.le_add _ _)) ((((((((hq85_17.mono (IM.le_add _ _)).mono (IM.le_add _ _)).mono (IM.le_add _ _)).mono (IM.le_add _ _)).mono (IM.le_add _ _)).mono (IM.le_add _ _)).mono (IM.le_add _ _)).rs hs7_) r86 hr87))))))))) (args2 rfl rfl)) rfl ?_ ?_
 rintro _ _ _ hle89 ⟨_, ⟨Ml112, Hl113, hll114, rfl, rfl, ⟨Ml109, Hl110, hll111, rfl, rfl, ⟨Ml106, Hl107, hll108, rfl, rfl, ⟨Ml103, Hl104, hll105, rfl, rfl, ⟨Ml100, Hl101, hll102, rfl, rfl, ⟨Ml97, Hl98, hll99, rfl, rfl, ⟨Ml94, Hl95, hll96, rfl, rfl, ⟨Ml91, Hl92, hll93, rfl, rfl, ⟨rfl, rfl⟩⟩⟩⟩⟩⟩⟩⟩⟩, rfl⟩
 have hq76_14 := hq76_14.mono hle89
 have hq76_15 := hq76_15.mono hle89
 have hq76_16 := hq76_16.mono hle89
 have hq76_17 := hq76_17.mono hle89
 have hq85_14 := hq85_14.mono hle89
 have hq85_15 := hq85_15.mono hle89
 have hq85_16 := hq85_16.mono hle89
 have hq85_17 := hq85_17.mono hle89
 have h0 := h0.mono hle89
 have hq32_0 := hq32_0.mono hle89
 have hE := hE.mono hle89
 refine ⟨(StabL.anc rfl (StabL.anc rfl trivial)), ?_⟩
 refine WT.a8 ?_
 refine Tp (.bool (!r86)) rfl (PO.not rfl) rfl ?_
 refine Tp (.bool (!r86)) rfl (PO.move rfl) rfl ?_
 rcases Bool.eq_false_or_eq_true (!r86) with hb115 | hb115
 have h := ite_t hb115 h
 refine WT.pureOff 32 rfl rfl rfl hb115 rfl ?_
 refine WT.pureOff 32 rfl rfl rfl hb115 rfl ?_
 refine WT.pureOff 32 rfl rfl rfl hb115 rfl ?_
 refine WT.pureOff 32 rfl rfl rfl hb115 rfl ?_
 refine WT.pureOff 32 rfl rfl rfl hb115 rfl ?_
 refine WT.pureOff 32 rfl rfl rfl hb115 rfl ?_
 refine WT.altOff 32 rfl rfl rfl hb115 rfl ⟨(StabL.st (StabA.off 32 rfl rfl rfl hb115 rfl) (StabL.st (StabA.off 32 rfl rfl rfl hb115 rfl) (StabL.st (StabA.off 32 rfl rfl rfl hb115 rfl) (StabL.st (StabA.off 32 rfl rfl rfl hb115 rfl) (StabL.st (StabA.off 32 rfl rfl rfl hb115 rfl) (StabL.anc rfl (StabL.anc rfl (StabL.anc rfl (StabL.anc rfl (StabL.anc rfl trivial)))))))))), ?_⟩ ?_
 refine WT.pureOff 32 rfl rfl rfl hb115 rfl ?_
 refine Tp (.bool true) rfl (PO.pickT rfl hb115 rfl) rfl ?_
 refine WT.fin ?_
 refine WQ.drop ?_
 refine WQ.drop ?_
 refine WQ.drop ?_
 refine WQ.drop ?_
 refine WQ.drop ?_
 refine WQ.drop ?_
 refine WQ.drop ?_
 refine WQ.drop ?_
 obtain rfl := Option.some.inj h
 refine WQ.thenJ ?_
 exact ⟨((hle75.trans hle84).trans hle89), rfl, hs41_1, hs41_5, hs41_6, hs41_7, rfl⟩
 exact WT.no
 have h := ite_f hb115 h
 refine Tn (pt g31 0) 32 rfl rfl rfl hb115 (PO.move hs41_5) rfl ?_
 refine Tn (pt g33 0) 32 rfl rfl rfl hb115 (PO.move hs41_6) rfl ?_
 refine Tn (pt g33 0) 32 rfl rfl rfl hb115 (PO.nilCheck rfl) rfl ?_
 refine Tn (pt g33 1) 32 rfl rfl rfl hb115 (PO.fieldAddr fo31_1 rfl rfl) rfl ?_
 refine Tn (pt g33 1) 32 rfl rfl rfl hb115 (PO.fieldAddr fo29_0 rfl rfl) rfl ?_
 refine Tn (.int .i64 r78) 32 rfl rfl rfl hb115 (PO.loadB 8 pl3 rfl rfl rfl) rfl ?_
 obtain ⟨r116, hr117, h⟩ := bnd h
 refine WT.f9 ?_
 refine WT.altOn 32 rfl rfl rfl hb115 (EO.call1 co9 (f_wire_Reader_At_ok (⟨r27.b, r71, r72⟩ : T_wire_Reader) _ _ _ hq32_0 r116 hr117) (args1 rfl)) rfl ?_ ?_
 rintro _ M118 _ hle119 ⟨_, ⟨rfl, rfl⟩, rfl⟩
 have hq76_14 := hq76_14.mono hle119
 have hq76_15 := hq76_15.mono hle119
 have hq76_16 := hq76_16.mono hle119
 have hq76_17 := hq76_17.mono hle119
 have hq85_14 := hq85_14.mono hle119
 have hq85_15 := hq85_15.mono hle119
 have hq85_16 := hq85_16.mono hle119
 have hq85_17 := hq85_17.mono hle119
 have h0 := h0.mono hle119
 have hq32_0 := hq32_0.mono hle119
 have hE := hE.mono hle119
 refine ⟨(StabL.st (StabA.on 32 rfl rfl rfl hb115 (PO.loadB 9 pl3 rfl rfl rfl) rfl) (StabL.st (StabA.on 32 rfl rfl rfl hb115 (PO.fieldAddr fo29_0 rfl rfl) rfl) (StabL.st (StabA.on 32 rfl rfl rfl hb115 (PO.fieldAddr fo31_1 rfl rfl) rfl) (StabL.st (StabA.on 32 rfl rfl rfl hb115 (PO.nilCheck rfl) rfl) (StabL.st (StabA.on 32 rfl rfl rfl hb115 (PO.move hs41_6) rfl) (StabL.anc rfl (StabL.anc rfl (StabL.anc rfl (StabL.anc rfl (StabL.anc rfl trivial)))))))))), ?_⟩
 refine WT.a1 ?_
 refine Tn (.bool (decide (r116 ≠ r78))) 32 rfl rfl rfl hb115 (PO.neq rfl rfl) rfl ?_
 refine Tp (.bool (decide (r116 ≠ r78))) rfl (PO.pickF rfl hb115 rfl) rfl ?_
 refine WT.fin ?_
 refine WQ.f1 ?_
 refine WQ.drop ?_
 refine WQ.f1 ?_
 refine WQ.drop ?_
 refine WQ.f1 ?_
 refine WQ.drop ?_
 refine WQ.f1 ?_
 refine WQ.drop ?_
 refine WQ.f1 ?_
 refine WQ.drop ?_
 refine WQ.f1 ?_
 refine WQ.drop ?_
 refine WQ.f1 ?_
 refine WQ.drop ?_
 refine WQ.f1 ?_
 refine WQ.drop ?_
 refine WQ.f1 ?_
 obtain rfl := Option.some.inj h
 refine WQ.thenJ ?_
 exact ⟨(((hle75.trans hle84).trans hle89).trans hle119), rfl, hs41_1, hs41_5, hs41_6, hs41_7, rfl⟩
 exact WT.no
 exact WT.no
 exact WT.no
 exact WT.no
 obtain ⟨x62, x63, x64, x65, x66, x67, x68⟩ := j69
 rintro ρ69 M69 H69 ⟨hle69, rfl, hs69_1, hs69_5, hs69_6, hs69_7, hs69_41⟩
 have h0 := h0.mono hle69
 have hq32_0 := hq32_0.mono hle69
 have hE := hE.mono hle69
 refine WC.cond (b := x62) hs69_41 (fun hb121 => ?_) (fun hb121 => ?_)
 have h := ite_t hb121 h
 refine Sr ?_
 refine Pa (.bool false) rfl rfl ?_
 refine Nt ?_
 refine WC.ret ?_
 refine WQ.blockR ?_
 refine WQ.thenR ?_
 refine WQ.leaveR (Sum.inr (x63, x64, x65, x66, x67, x68)) (Option.some.inj h).symm (fun heq41 => ?_)
 subst heq41
 have h := (elimR hK41)
 refine WQ.blockR ?_
 refine WQ.thenR ?_
 have h := KK.early h h340
 refine WQ.drop ?_
 refine WQ.drop ?_
 exact WQ.returnsF h [] rfl (results1 rfl rfl) ((hle30.trans hle41).trans hle69) ⟨rfl, rfl⟩
 have h := ite_f hb121 h
 refine WC.skip ?_
 refine WQ.blockN ?_
 refine WQ.thenC ?_
 refine WC.region ?_
 refine Pm (.int .i64 x42) hs69_7 rfl ?_
 refine Pu (.int .i64 (IntKind.i64.wrap (x42 + 1))) (PO.add rfl rfl) rfl ?_
 refine Pa (.int .i64 (IntKind.i64.wrap (x42 + 1))) rfl rfl ?_
 refine WL.nil ?_
 refine WQ.again (IntKind.i64.wrap (x42 + 1), x67, x68, x63, x64, x65, x66) (Option.some.inj h).symm ?_
 exact ⟨(hle41.trans hle69), rfl, hs69_1, hs69_5, hs69_6, rfl⟩
 have h := ite_f hb61 h
 refine WC.exit ?_
 refine WQ.thenE ?_
 refine WQ.leaveE (Sum.inl (x45, x46, x47, x48, x43, x44)) (Option.some.inj h).symm (fun heq41 => ?_)
 subst heq41
 have h := elimL hK41
 refine WQ.blockH ?_
 refine WQ.thenFE h ?_
 exact ⟨hle41, rfl, hs41_5, hs41_6⟩
 rintro ⟨x34, x35, x36, x37, x38, x39⟩ ρ40 M40 H40 rfl ⟨hle40, rfl, hs40_5, hs40_6⟩
 have h := (Sum.elim_inl _ _ _).symm.trans h
 have h0 := h0.mono hle40
 have hq32_0 := hq32_0.mono hle40
 have hE := hE.mono hle40
 refine Sr ?_
 refine Pm (pt g33 0) hs40_6 rfl ?_
 obtain ⟨⟨r122, r123, r124, r125⟩, hr126, h⟩ := bnd h
 refine WL.eff (EO.call1 co10 (f_ref05_Cursor_End_ok (⟨a0, (⟨x34, x35, x36, x37⟩ : T_ref02_State)⟩ : T_ref05_Cursor) _ _ _ h0 (r122, r123, r124, r125) hr126) (args1 rfl)) rfl ?_
 rintro _ M127 _ hle128 ⟨_, ⟨rfl, rfl⟩, rfl⟩
 have h0 := h0.mono hle128
 have hq32_0 := hq32_0.mono hle128
 have hE := hE.mono hle128
 refine WL.a1 ?_
 refine Nt ?_
 obtain ⟨j131, hj131, h⟩ := bnd h
 refine WC.joinF (fun (p_ : (Bool × GErr)) ρ' M' H' => match p_ with | (x129, x130) => M127.le M' ∧ [(g33, .cells #[v0, (.int .i64 r122), (.int .i64 r123), (.string r124), (.int .i64 r125)] 31 (0, 0))] :: [(g31, .cells #[vq32_0, (.int .i64 x38), (GV x130)] 53 (0, 0))] :: F = H' ∧ ρ' 4 = (.bool x129)) j131 ?_ ?_
 have h3131 := h
 have h := hj131
 refine WC.draw [0, 1, 0, 4, 12, 28, 60, 0, 128, 384, 896, 1920, 0, 4096, 12288, 28672, 61440, 131068, 262143, 524287, 1048575, 2097151, 4194303] (.pure 0 (.pure 2 (.pure 3 (.pure 4 (.pure 5 (.pure 6 (.pure 7 (.pure 8 (.pure 9 (.pure 10 (.pure 11 (.pure 12 (.pure 13 (.pure 14 (.pure 15 (.pure 16 (.pure 17 (.alt 1 (.alt 18 (.pure 19 (.alt 20 (.pure 21 (.pure 22 .done)) .none)) .none) .none)))))))))))))))))) mixed (by kernel_rfl) ?_
 refine Tp (pt g31 0) rfl (PO.move hs40_5) rfl ?_
 refine Tp (pt g33 0) rfl (PO.move hs40_6) rfl ?_
 refine Tp (pt g33 0) rfl (PO.nilCheck rfl) rfl ?_
 refine Tp (pt g33 1) rfl (PO.fieldAddr fo31_1 rfl rfl) rfl ?_
 refine Tp (pt g33 3) rfl (PO.fieldAddr fo29_2 rfl rfl) rfl ?_
 refine Tp (.string r124) rfl (PO.loadB 0 pl9 rfl rfl rfl) rfl ?_
 refine Tp (pt g33 0) rfl (PO.move hs40_6) rfl ?_
 refine Tp (pt g33 0) rfl (PO.nilCheck rfl) rfl ?_
 refine Tp (pt g33 1) rfl (PO.fieldAddr fo31_1 rfl rfl) rfl ?_
 refine Tp (pt g33 4) rfl (PO.fieldAddr fo29_3 rfl rfl) rfl ?_
 refine Tp (.int .i64 r125) rfl (PO.loadB 0 pl3 rfl rfl rfl) rfl ?_
 refine Tp (pt g33 0) rfl (PO.move hs40_6) rfl ?_
 refine Tp (pt g33 0) rfl (PO.nilCheck rfl) rfl ?_
 refine Tp (pt g33 1) rfl (PO.fieldAddr fo31_1 rfl rfl) rfl ?_
 refine Tp (pt g33 2) rfl (PO.fieldAddr fo29_1 rfl rfl) rfl ?_
 refine Tp (.int .i64 r123) rfl (PO.loadB 0 pl27 rfl rfl rfl) rfl ?_
 refine Tp (.agg #[(.string r124), (.int .i64 r125), (.int .i64 r123)]) rfl (PO.buildL (cl := [(.string r124), (.int .i64 r125), (.int .i64 r123)]) ze44 fp44 (Parts.cons (congrArg Value.cells (show ev _ _ = (.string r124) from rfl)) (Parts.cons (congrArg Value.cells (show ev _ _ = (.int .i64 r125) from rfl)) (Parts.cons (congrArg Value.cells (show ev _ _ = (.int .i64 r123) from rfl)) Parts.nil))) rfl) rfl ?_
 obtain ⟨⟨r132, r133⟩, hr134, h⟩ := bnd h
 refine WT.f1 ?_
 refine WT.alt rfl (EO.call1 co12 (f_wire_Reader_End_ok (⟨r27.b, x38, x39⟩ : T_wire_Reader) _ _ _ hq32_0 (r132, r133) hr134) (args1 rfl)) rfl ?_ ?_
 rintro _ M135 _ hle136 ⟨_, ⟨rfl, rfl⟩, rfl⟩
 have h0 := h0.mono hle136
 have hq32_0 := hq32_0.mono hle136
 have hE := hE.mono hle136
 refine ⟨(StabL.st (StabA.of rfl (PO.buildL (cl := [(.string r124), (.int .i64 r125), (.int .i64 r123)]) ze44 fp44 (Parts.cons (congrArg Value.cells (show ev _ _ = (.string r124) from rfl)) (Parts.cons (congrArg Value.cells (show ev _ _ = (.int .i64 r125) from rfl)) (Parts.cons (congrArg Value.cells (show ev _ _ = (.int .i64 r123) from rfl)) Parts.nil))) rfl) rfl) (StabL.st (StabA.of rfl (PO.loadB 1 pl27 rfl rfl rfl) rfl) (StabL.st (StabA.of rfl (PO.fieldAddr fo29_1 rfl rfl) rfl) (StabL.st (StabA.of rfl (PO.fieldAddr fo31_1 rfl rfl) rfl) (StabL.st (StabA.of rfl (PO.nilCheck rfl) rfl) (StabL.st (StabA.of rfl (PO.move hs40_6) rfl) (StabL.st (StabA.of rfl (PO.loadB 1 pl3 rfl rfl rfl) rfl) (StabL.st (StabA.of rfl (PO.fieldAddr fo29_3 rfl rfl) rfl) (StabL.st (StabA.of rfl (PO.fieldAddr fo31_1 rfl rfl) rfl) (StabL.st (StabA.of rfl (PO.nilCheck rfl) rfl) (StabL.st (StabA.of rfl (PO.move hs40_6) rfl) (StabL.st (StabA.of rfl (PO.loadB 1 pl9 rfl rfl rfl) rfl) (StabL.st (StabA.of rfl (PO.fieldAddr fo29_2 rfl rfl) rfl) (StabL.st (StabA.of rfl (PO.fieldAddr fo31_1 rfl rfl) rfl) (StabL.st (StabA.of rfl (PO.nilCheck rfl) rfl) (StabL.st (StabA.of rfl (PO.move hs40_6) rfl) (StabL.anc rfl trivial))))))))))))))))), ?_⟩
 refine WT.a1 ?_
 obtain ⟨r138, hr139, h⟩ := bnd h
 refine WT.alt rfl (EO.call0 co11 (f_law05_wrong_ok r132 (⟨r124, r125, r123⟩ : T_ref05_Wrong) _ hE r138 hr139) (args2 rfl rfl)) rfl ?_ ?_
 rintro _ M140 _ hle141 ⟨_, ⟨rfl, rfl⟩, rfl⟩
 have h0 := h0.mono hle141
 have hq32_0 := hq32_0.mono hle141
 have hE := hE.mono hle141
 refine ⟨(StabL.anc rfl (StabL.anc rfl (StabL.anc rfl (StabL.anc rfl (StabL.anc rfl (StabL.anc rfl (StabL.anc rfl (StabL.anc rfl (StabL.anc rfl (StabL.anc rfl (StabL.anc rfl (StabL.anc rfl (StabL.anc rfl (StabL.anc rfl (StabL.anc rfl (StabL.anc rfl (StabL.anc rfl trivial))))))))))))))))), ?_⟩
 refine WT.a0 ?_
 refine Tp (.bool r138) rfl (PO.move rfl) rfl ?_
 rcases Bool.eq_false_or_eq_true (r138) with hb143 | hb143
 have h := ite_t hb143 h
 obtain ⟨r144, hr145, h⟩ := bnd h
 refine WT.altOn 63 rfl rfl rfl hb143 (EO.call0 co4 (f_law05_works_ok _ hE r144 hr145) (args0)) rfl ?_ ?_
 rintro _ M146 _ hle147 ⟨_, ⟨rfl, rfl⟩, rfl⟩
 have h0 := h0.mono hle147
 have hq32_0 := hq32_0.mono hle147
 have hE := hE.mono hle147
 refine ⟨(StabL.anc rfl (StabL.anc rfl (StabL.anc rfl (StabL.anc rfl (StabL.anc rfl (StabL.anc rfl (StabL.anc rfl (StabL.anc rfl (StabL.anc rfl (StabL.anc rfl (StabL.anc rfl (StabL.anc rfl (StabL.anc rfl (StabL.anc rfl (StabL.anc rfl (StabL.anc rfl (StabL.anc rfl (StabL.anc rfl trivial)))))))))))))))))), ?_⟩
 refine WT.a0 ?_
 refine Tp (.bool r144) rfl (PO.pickT rfl hb143 rfl) rfl ?_
 refine Tp (.bool r144) rfl (PO.assign rfl) rfl ?_
 refine WT.fin ?_
 refine WQ.f1 ?_
 obtain rfl := Option.some.inj h
 refine WQ.thenJ ?_
 exact ⟨((hle136.trans hle141).trans hle147), rfl, rfl⟩
 exact WT.no
 have h := ite_f hb143 h
 refine WT.altOff 63 rfl rfl rfl hb143 rfl ⟨(StabL.anc rfl (StabL.anc rfl (StabL.anc rfl (StabL.anc rfl (StabL.anc rfl (StabL.anc rfl (StabL.anc rfl (StabL.anc rfl (StabL.anc rfl (StabL.anc rfl (StabL.anc rfl (StabL.anc rfl (StabL.anc rfl (StabL.anc rfl (StabL.anc rfl (StabL.anc rfl (StabL.anc rfl (StabL.anc rfl trivial)))))))))))))))))), ?_⟩ ?_
 refine Tp (.bool false) rfl (PO.pickF rfl hb143 rfl) rfl ?_
 refine Tp (.bool false) rfl (PO.assign rfl) rfl ?_
 refine WT.fin ?_
 refine WQ.f1 ?_
 obtain rfl := Option.some.inj h
 refine WQ.thenJ ?_
 exact ⟨(hle136.trans hle141), rfl, rfl⟩
 exact WT.no
 exact WT.no
 exact WT.no
 obtain ⟨x129, x130⟩ := j131
 rintro ρ131 M131 H131 ⟨hle131, rfl, hs131_4⟩
 have h0 := h0.mono hle131
 have hq32_0 := hq32_0.mono hle131
 have hE := hE.mono hle131
 refine WC.ret ?_
 refine WQ.drop ?_
 refine WQ.drop ?_
 exact WQ.returnsF h [] rfl (results1 rfl hs131_4) (((hle30.trans hle40).trans hle128).trans hle131) ⟨rfl, rfl⟩


end Go.Proofs.YtafkdjljkolehaaGreatDoor.G
