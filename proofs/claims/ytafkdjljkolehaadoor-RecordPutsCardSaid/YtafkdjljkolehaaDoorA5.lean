/- Go functions: what they come to, and that they do. Printed by a program of the session (gen). -/
import Derived.Test.YtafkdjljkolehaaDoorAF
import Derived.Test.YtafkdjljkolehaaDoorA4
import Derived.Test.YtafkdjljkolehaaDoorKConv
set_option linter.unusedVariables false
set_option linter.unusedSimpArgs false
set_option maxHeartbeats 8000000
set_option maxRecDepth 100000
namespace Go.Proofs.YtafkdjljkolehaaDoor.G
open Go Go.KK

noncomputable def f_wire_Reader_Int (a0 : T_wire_Reader) (a1 : Int) : Option (Int × Int × GErr) :=
  ((f_wire_Reader_Num a0 (IntKind.u64.wrap (if a1 < (0 : Int) then (0 : Int) else a1))).bind fun (r21, r22, r23) => (some (IntKind.i64.wrap r21, r22, r23)))
def f_wire_Reader_Int_post (a0 : T_wire_Reader) (a1 : Int) (v0_0 : Value) (g0 : Nat) : (Int × Int × GErr) → Value → IM → HL → Prop :=
  fun (p_ : (Int × Int × GErr)) (v : Value) (M' : IM) (H' : HL) => match p_ with | (r0, r1, r2) => (.int .i64 r0) = v ∧ H' = [[(g0, .cells #[v0_0, (.int .i64 r1), (GV r2)] 63 (0, 0))]]
theorem f_wire_Reader_Int_ok (a0 : T_wire_Reader) (a1 : Int) (M : IM) (v0_0 : Value) (g0 : Nat) (h0_0 : RS (Kd.int .u8) M v0_0 a0.b) (res : (Int × Int × GErr)) (h : f_wire_Reader_Int a0 a1 = some res) :
    Tri Tryd.prog 35 #[(pt g0 0), (.int .i64 a1)] M [[(g0, .cells #[v0_0, (.int .i64 a0.at_), (GV a0.err)] 63 (0, 0))]] (f_wire_Reader_Int_post a0 a1 v0_0 g0 res) := by
 unfold f_wire_Reader_Int at h
 refine Tri.enter (fn := Tryd.f35) Tryd.func35 rfl (Nat.le_of_ble_eq_true rfl) ?_
 intro F ρ hρ
 refine Sr ?_
 refine Pa (.int .i64 0) rfl rfl ?_
 refine Ns ?_
 refine Pm (pt g0 0) (hρ 0) rfl ?_
 refine Pm (.int .i64 a1) (hρ 1) rfl ?_
 refine Pu (.int .i64 (if a1 < 0 then (0 : Int) else a1)) (PO.max rfl rfl) rfl ?_
 refine Pu (.int .u64 (IntKind.u64.wrap (if a1 < 0 then (0 : Int) else a1))) (PO.conv us3 Tryd.underlying93 rfl) rfl ?_
 obtain ⟨⟨r21, r22, r23⟩, hr24, h⟩ := bnd h
 refine WL.eff (EO.call1 co68 (f_wire_Reader_Num_ok a0 (IntKind.u64.wrap (if a1 < 0 then (0 : Int) else a1)) _ _ _ h0_0 (r21, r22, r23) hr24) (args2 rfl rfl)) rfl ?_
 rintro _ M25 _ hle26 ⟨_, ⟨rfl, rfl⟩, rfl⟩
 have h0_0 := h0_0.mono hle26
 refine WL.a1 ?_
 refine Pu (.int .i64 (IntKind.i64.wrap r21)) (PO.conv us93 Tryd.underlying3 rfl) rfl ?_
 refine Pa (.int .i64 (IntKind.i64.wrap r21)) rfl rfl ?_
 refine Nt ?_
 refine WC.ret ?_
 exact WQ.returnsF h [[(g0, .cells #[v0_0, (.int .i64 r22), (GV r23)] 63 (0, 0))]] rfl (results1 rfl rfl) hle26 ⟨rfl, rfl⟩

noncomputable def f_wire_Reader_Err (a0 : T_wire_Reader) : Option GErr :=
  (some a0.err)
def f_wire_Reader_Err_post (a0 : T_wire_Reader) (v0_0 : Value) (g0 : Nat) : GErr → Value → IM → HL → Prop :=
  fun (r0 : GErr) (v : Value) (M' : IM) (H' : HL) => (GV r0) = v ∧ H' = [[(g0, .cells #[v0_0, (.int .i64 a0.at_), (GV a0.err)] 63 (0, 0))]]
theorem f_wire_Reader_Err_ok (a0 : T_wire_Reader) (M : IM) (v0_0 : Value) (g0 : Nat) (h0_0 : RS (Kd.int .u8) M v0_0 a0.b) (res : GErr) (h : f_wire_Reader_Err a0 = some res) :
    Tri Tryd.prog 13 #[(pt g0 0)] M [[(g0, .cells #[v0_0, (.int .i64 a0.at_), (GV a0.err)] 63 (0, 0))]] (f_wire_Reader_Err_post a0 v0_0 g0 res) := by
 unfold f_wire_Reader_Err at h
 refine Tri.enter (fn := Tryd.f13) Tryd.func13 rfl (Nat.le_of_ble_eq_true rfl) ?_
 intro F ρ hρ
 refine Sr ?_
 refine Pa (GV GErr.nil) rfl rfl ?_
 refine Ns ?_
 refine Pm (pt g0 0) (hρ 0) rfl ?_
 refine Pu (pt g0 0) (PO.nilCheck rfl) rfl ?_
 refine Pu (pt g0 2) (PO.fieldAddr fo63_2 rfl rfl) rfl ?_
 refine Pu (GV a0.err) (PO.loadB 0 pl30 rfl rfl rfl) rfl ?_
 refine Pa (GV a0.err) rfl rfl ?_
 refine Nt ?_
 refine WC.ret ?_
 exact WQ.returnsF h [[(g0, .cells #[v0_0, (.int .i64 a0.at_), (GV a0.err)] 63 (0, 0))]] rfl (results1 rfl rfl) (IM.le.refl _) ⟨rfl, rfl⟩

noncomputable def f_wire_Reader_Refuse (a0 : T_wire_Reader) (a1 : ByteArray) (a2 : Int) : Option GErr :=
  ((f_wire_Reader_fail a0 a1 a0.at_ a2).bind fun (r21 : GErr) => (some r21))
def f_wire_Reader_Refuse_post (a0 : T_wire_Reader) (a1 : ByteArray) (a2 : Int) (v0_0 : Value) (g0 : Nat) : GErr → Value → IM → HL → Prop :=
  fun (r0 : GErr) (v : Value) (M' : IM) (H' : HL) => (.tuple #[]) = v ∧ H' = [[(g0, .cells #[v0_0, (.int .i64 a0.at_), (GV r0)] 63 (0, 0))]]
theorem f_wire_Reader_Refuse_ok (a0 : T_wire_Reader) (a1 : ByteArray) (a2 : Int) (M : IM) (v0_0 : Value) (g0 : Nat) (h0_0 : RS (Kd.int .u8) M v0_0 a0.b) (res : GErr) (h : f_wire_Reader_Refuse a0 a1 a2 = some res) :
    Tri Tryd.prog 36 #[(pt g0 0), (.string a1), (.int .i64 a2)] M [[(g0, .cells #[v0_0, (.int .i64 a0.at_), (GV a0.err)] 63 (0, 0))]] (f_wire_Reader_Refuse_post a0 a1 a2 v0_0 g0 res) := by
 unfold f_wire_Reader_Refuse at h
 refine Tri.enter (fn := Tryd.f36) Tryd.func36 rfl (Nat.le_of_ble_eq_true rfl) ?_
 intro F ρ hρ
 refine WC.region ?_
 refine Pm (pt g0 0) (hρ 0) rfl ?_
 refine Pm (.string a1) (hρ 1) rfl ?_
 refine Pm (pt g0 0) (hρ 0) rfl ?_
 refine Pu (pt g0 0) (PO.nilCheck rfl) rfl ?_
 refine Pu (pt g0 1) (PO.fieldAddr fo63_1 rfl rfl) rfl ?_
 refine Pu (.int .i64 a0.at_) (PO.loadB 0 pl3 rfl rfl rfl) rfl ?_
 refine Pm (.int .i64 a2) (hρ 2) rfl ?_
 obtain ⟨r21, hr22, h⟩ := bnd h
 refine WL.eff (EO.call1 co46 (f_wire_Reader_fail_ok a0 a1 a0.at_ a2 _ _ _ h0_0 r21 hr22) (args4 rfl rfl rfl rfl)) rfl ?_
 rintro _ M23 _ hle24 ⟨_, ⟨rfl, rfl⟩, rfl⟩
 have h0_0 := h0_0.mono hle24
 refine WL.a1 ?_
 refine WL.nil ?_
 exact WQ.endsF h [[(g0, .cells #[v0_0, (.int .i64 a0.at_), (GV r21)] 63 (0, 0))]] rfl (results0 rfl) hle24 ⟨rfl, rfl⟩

noncomputable def f_record_Read_1 (a0 : Int) (a1 : Int) (a2q : T_wire_Reader) : Option (Int × Int × GErr) :=
  (if (decide ((andI .i64 a1 a0) = (0 : Int))) = true then (some ((0 : Int), a2q.at_, a2q.err)) else ((f_wire_Reader_Int a2q (1073741824 : Int)).bind fun (r22, r23, r24) => (some (r22, r23, r24))))
def f_record_Read_1_post (a0 : Int) (a1 : Int) (a2q : T_wire_Reader) (v2q_0 : Value) (g1 g2 g2q : Nat) : (Int × Int × GErr) → Value → IM → HL → Prop :=
  fun (p_ : (Int × Int × GErr)) (v : Value) (M' : IM) (H' : HL) => match p_ with | (r0, r1, r2) => (.int .i64 r0) = v ∧ H' = [[(g1, .cells #[(.int .i64 a1)] 3 (0, 0))], [(g2q, .cells #[v2q_0, (.int .i64 r1), (GV r2)] 63 (0, 0))], [(g2, .cells #[(.pointer (some ⟨g2q, 0, none⟩))] 33 (0, 0))]]
theorem f_record_Read_1_ok (a0 : Int) (a1 : Int) (a2q : T_wire_Reader) (M : IM) (v2q_0 : Value) (g1 g2 g2q : Nat) (h2q_0 : RS (Kd.int .u8) M v2q_0 a2q.b) (res : (Int × Int × GErr)) (h : f_record_Read_1 a0 a1 a2q = some res) :
    Tri Tryd.prog 37 #[(.int .i64 a0), (pt g1 0), (pt g2 0)] M [[(g1, .cells #[(.int .i64 a1)] 3 (0, 0))], [(g2q, .cells #[v2q_0, (.int .i64 a2q.at_), (GV a2q.err)] 63 (0, 0))], [(g2, .cells #[(pt g2q 0)] 33 (0, 0))]] (f_record_Read_1_post a0 a1 a2q v2q_0 g1 g2 g2q res) := by
 unfold f_record_Read_1 at h
 refine Tri.enter (fn := Tryd.f37) Tryd.func37 rfl (Nat.le_of_ble_eq_true rfl) ?_
 intro F ρ hρ
 refine Sr ?_
 refine Pa (.int .i64 0) rfl rfl ?_
 refine Nt ?_
 refine WC.seq ?_
 refine Sr ?_
 refine Pu (.int .i64 a1) (PO.loadB 0 pl3 (hρ 1) rfl rfl) rfl ?_
 refine Pm (.int .i64 a0) (hρ 0) rfl ?_
 refine Pu (.int .i64 (andI .i64 a1 a0)) (PO.and rfl rfl) rfl ?_
 refine Pu (.bool (decide ((andI .i64 a1 a0) = 0))) (PO.eql rfl rfl) rfl ?_
 refine Nt ?_
 refine WC.cond (b := decide ((andI .i64 a1 a0) = 0)) rfl (fun hb21 => ?_) (fun hb21 => ?_)
 have h := ite_t hb21 h
 refine Sr ?_
 refine Pa (.int .i64 0) rfl rfl ?_
 refine Nt ?_
 refine WC.ret ?_
 refine WQ.thenR ?_
 exact WQ.returnsF h [[(g1, .cells #[(.int .i64 a1)] 3 (0, 0))], [(g2q, .cells #[v2q_0, (.int .i64 a2q.at_), (GV a2q.err)] 63 (0, 0))], [(g2, .cells #[(pt g2q 0)] 33 (0, 0))]] rfl (results1 rfl rfl) (IM.le.refl _) ⟨rfl, rfl⟩
 have h := ite_f hb21 h
 refine WC.skip ?_
 refine WQ.thenC ?_
 refine Sr ?_
 refine Pu (pt g2q 0) (PO.loadB 2 pl33 (hρ 2) rfl rfl) rfl ?_
 obtain ⟨⟨r22, r23, r24⟩, hr25, h⟩ := bnd h
 refine WL.f1 ?_
 refine WL.eff (EO.call1 co35 (f_wire_Reader_Int_ok a2q (1073741824 : Int) _ _ _ h2q_0 (r22, r23, r24) hr25) (args2 rfl rfl)) rfl ?_
 rintro _ M26 _ hle27 ⟨_, ⟨rfl, rfl⟩, rfl⟩
 have h2q_0 := h2q_0.mono hle27
 refine WL.a1 ?_
 refine Pa (.int .i64 r22) rfl rfl ?_
 refine Nt ?_
 refine WC.ret ?_
 refine WQ.f2 ?_
 refine WQ.f1 ?_
 refine WQ.f2 ?_
 exact WQ.returnsF h [[(g1, .cells #[(.int .i64 a1)] 3 (0, 0))], [(g2q, .cells #[v2q_0, (.int .i64 r23), (GV r24)] 63 (0, 0))], [(g2, .cells #[(pt g2q 0)] 33 (0, 0))]] rfl (results1 rfl rfl) hle27 ⟨rfl, rfl⟩

noncomputable def f_wire_Reader_Flag (a0 : T_wire_Reader) : Option (Bool × Int × GErr) :=
  (((if (!a0.err.isNil) = true then (some (Sum.inl a0.err)) else (if (decide ((a0.b.length : Int) ≤ a0.at_)) = true then ((f_wire_Reader_fail a0 (⟨#[102, 108, 97, 103]⟩ : ByteArray) a0.at_ (3 : Int)).bind fun (r25 : GErr) => (some (Sum.inl r25))) else (grd (0 ≤ a0.at_ ∧ a0.at_ < a0.b.length) (if (decide ((1 : Int) < (rd a0.b a0.at_))) = true then ((f_wire_Reader_fail a0 (⟨#[102, 108, 97, 103]⟩ : ByteArray) a0.at_ (5 : Int)).bind fun (r37 : GErr) => (some (Sum.inl r37))) else (grd (0 ≤ IntKind.i64.wrap ((IntKind.i64.wrap (a0.at_ + (1 : Int))) - (1 : Int)) ∧ IntKind.i64.wrap ((IntKind.i64.wrap (a0.at_ + (1 : Int))) - (1 : Int)) < a0.b.length) (((some (decide ((rd a0.b (IntKind.i64.wrap ((IntKind.i64.wrap (a0.at_ + (1 : Int))) - (1 : Int)))) = (1 : Int)), IntKind.i64.wrap (a0.at_ + (1 : Int)), a0.err))).bind fun r => some (Sum.inr r))))))) : Option (GErr ⊕ (Bool × Int × GErr))).bind (Sum.elim (fun (x21 : GErr) => (some (false, a0.at_, x21))) some))
def f_wire_Reader_Flag_post (a0 : T_wire_Reader) (v0_0 : Value) (g0 : Nat) : (Bool × Int × GErr) → Value → IM → HL → Prop :=
  fun (p_ : (Bool × Int × GErr)) (v : Value) (M' : IM) (H' : HL) => match p_ with | (r0, r1, r2) => (.bool r0) = v ∧ H' = [[(g0, .cells #[v0_0, (.int .i64 r1), (GV r2)] 63 (0, 0))]]
theorem f_wire_Reader_Flag_ok (a0 : T_wire_Reader) (M : IM) (v0_0 : Value) (g0 : Nat) (h0_0 : RS (Kd.int .u8) M v0_0 a0.b) (res : (Bool × Int × GErr)) (h : f_wire_Reader_Flag a0 = some res) :
    Tri Tryd.prog 38 #[(pt g0 0)] M [[(g0, .cells #[v0_0, (.int .i64 a0.at_), (GV a0.err)] 63 (0, 0))]] (f_wire_Reader_Flag_post a0 v0_0 g0 res) := by
 unfold f_wire_Reader_Flag at h
 refine Tri.enter (fn := Tryd.f38) Tryd.func38 rfl (Nat.le_of_ble_eq_true rfl) ?_
 intro F ρ hρ
 refine Sr ?_
 refine Pa (.bool false) rfl rfl ?_
 refine Nt ?_
 obtain ⟨j22, hj22, h⟩ := bnd h
 refine WC.joinE (fun (x21 : GErr) ρ' M' H' => M.le M' ∧ [(g0, .cells #[v0_0, (.int .i64 a0.at_), (GV x21)] 63 (0, 0))] :: F = H') j22 ?_ ?_
 have h322 := h
 have h := hj22
 refine WC.block ?_
 refine Sr ?_
 refine Pm (pt g0 0) (hρ 0) rfl ?_
 refine Pu (pt g0 0) (PO.nilCheck rfl) rfl ?_
 refine Pu (pt g0 2) (PO.fieldAddr fo63_2 rfl rfl) rfl ?_
 refine Pu (GV a0.err) (PO.loadB 0 pl30 rfl rfl rfl) rfl ?_
 refine Pu (.bool (!a0.err.isNil)) (PO.errNotNil Tryd.underlying30 rfl) rfl ?_
 refine Pa (.bool (!a0.err.isNil)) rfl rfl ?_
 refine Nt ?_
 refine WC.cond (b := !a0.err.isNil) rfl (fun hb23 => ?_) (fun hb23 => ?_)
 have h := ite_t hb23 h
 refine WC.skip ?_
 refine WQ.blockN ?_
 refine WQ.thenFE h ?_
 exact ⟨(IM.le.refl _), rfl⟩
 have h := ite_f hb23 h
 refine WC.seq ?_
 refine WC.draw [0, 1, 3, 7, 0, 16, 48, 112, 240, 511, 1023] (.pure 0 (.pure 1 (.pure 2 (.pure 3 (.pure 4 (.pure 5 (.pure 6 (.pure 7 (.pure 8 (.pure 9 (.pure 10 .done))))))))))) mixed (by kernel_rfl) ?_
 refine Tp (pt g0 0) rfl (PO.move (hρ 0)) rfl ?_
 refine Tp (pt g0 0) rfl (PO.nilCheck rfl) rfl ?_
 refine Tp (pt g0 1) rfl (PO.fieldAddr fo63_1 rfl rfl) rfl ?_
 refine Tp (.int .i64 a0.at_) rfl (PO.loadB 0 pl3 rfl rfl rfl) rfl ?_
 refine Tp (pt g0 0) rfl (PO.move (hρ 0)) rfl ?_
 refine Tp (pt g0 0) rfl (PO.nilCheck rfl) rfl ?_
 refine Tp (pt g0 0) rfl (PO.fieldAddr fo63_0 rfl rfl) rfl ?_
 refine Tp v0_0 rfl (PO.loadB 0 pl28 rfl rfl rfl) rfl ?_
 refine Tp (.int .i64 (a0.b.length : Int)) rfl (PO.lenS Tryd.underlying28 rfl h0_0.len) rfl ?_
 refine Tp (.bool (decide ((a0.b.length : Int) ≤ a0.at_))) rfl (PO.geq rfl rfl) rfl ?_
 refine Tp (.bool (decide ((a0.b.length : Int) ≤ a0.at_))) rfl (PO.assign rfl) rfl ?_
 refine WT.fin ?_
 refine WQ.thenC ?_
 refine WC.cond (b := decide ((a0.b.length : Int) ≤ a0.at_)) rfl (fun hb24 => ?_) (fun hb24 => ?_)
 have h := ite_t hb24 h
 refine WC.region ?_
 refine Pm (pt g0 0) (hρ 0) rfl ?_
 refine Pm (pt g0 0) (hρ 0) rfl ?_
 refine Pu (pt g0 0) (PO.nilCheck rfl) rfl ?_
 refine Pu (pt g0 1) (PO.fieldAddr fo63_1 rfl rfl) rfl ?_
 refine Pu (.int .i64 a0.at_) (PO.loadB 0 pl3 rfl rfl rfl) rfl ?_
 obtain ⟨r25, hr26, h⟩ := bnd h
 refine WL.eff (EO.call1 co46 (f_wire_Reader_fail_ok a0 (⟨#[102, 108, 97, 103]⟩ : ByteArray) a0.at_ (3 : Int) _ _ _ h0_0 r25 hr26) (args4 rfl rfl rfl rfl)) rfl ?_
 rintro _ M27 _ hle28 ⟨_, ⟨rfl, rfl⟩, rfl⟩
 have h0_0 := h0_0.mono hle28
 refine WL.a1 ?_
 refine WL.nil ?_
 refine WQ.blockN ?_
 refine WQ.thenFE h ?_
 exact ⟨hle28, rfl⟩
 have h := ite_f hb24 h
 refine WC.seq ?_
 refine WC.draw [0, 1, 3, 7, 0, 16, 48, 112, 255, 511, 1023, 2047] (.pure 0 (.pure 1 (.pure 2 (.pure 3 (.pure 4 (.pure 5 (.pure 6 (.pure 7 (.pure 8 (.pure 9 (.pure 10 (.pure 11 .done)))))))))))) mixed (by kernel_rfl) ?_
 refine Tp (pt g0 0) rfl (PO.move (hρ 0)) rfl ?_
 refine Tp (pt g0 0) rfl (PO.nilCheck rfl) rfl ?_
 refine Tp (pt g0 0) rfl (PO.fieldAddr fo63_0 rfl rfl) rfl ?_
 refine Tp v0_0 rfl (PO.loadB 0 pl28 rfl rfl rfl) rfl ?_
 refine Tp (pt g0 0) rfl (PO.move (hρ 0)) rfl ?_
 refine Tp (pt g0 0) rfl (PO.nilCheck rfl) rfl ?_
 refine Tp (pt g0 1) rfl (PO.fieldAddr fo63_1 rfl rfl) rfl ?_
 refine Tp (.int .i64 a0.at_) rfl (PO.loadB 0 pl3 rfl rfl rfl) rfl ?_
 obtain ⟨hg29, h⟩ := grd_i h
 obtain ⟨p30, cs31, hat32, hrc33, hhas34⟩ := h0_0.at hg29.1 hg29.2 (by decide)
 obtain rfl := hrc33
 refine Tp (.pointer (some p30)) rfl (PO.indexAddr (n := a0.b.length) Tryd.underlying28 sz5 rfl rfl hg29.1 hg29.2 hat32) rfl ?_
 refine Tp (.int .u8 (rd a0.b a0.at_)) rfl (PO.loadM pl5 rfl (IM.has0 hhas34)) rfl ?_
 refine Tp (.bool (decide ((1 : Int) < (rd a0.b a0.at_)))) rfl (PO.gtr rfl rfl) rfl ?_
 refine Tp (.bool (decide ((1 : Int) < (rd a0.b a0.at_)))) rfl (PO.assign rfl) rfl ?_
 refine WT.fin ?_
 refine WQ.thenC ?_
 refine WC.cond (b := decide ((1 : Int) < (rd a0.b a0.at_))) rfl (fun hb36 => ?_) (fun hb36 => ?_)
 have h := ite_t hb36 h
 refine WC.region ?_
 refine Pm (pt g0 0) (hρ 0) rfl ?_
 refine Pm (pt g0 0) (hρ 0) rfl ?_
 refine Pu (pt g0 0) (PO.nilCheck rfl) rfl ?_
 refine Pu (pt g0 1) (PO.fieldAddr fo63_1 rfl rfl) rfl ?_
 refine Pu (.int .i64 a0.at_) (PO.loadB 0 pl3 rfl rfl rfl) rfl ?_
 obtain ⟨r37, hr38, h⟩ := bnd h
 refine WL.eff (EO.call1 co46 (f_wire_Reader_fail_ok a0 (⟨#[102, 108, 97, 103]⟩ : ByteArray) a0.at_ (5 : Int) _ _ _ h0_0 r37 hr38) (args4 rfl rfl rfl rfl)) rfl ?_
 rintro _ M39 _ hle40 ⟨_, ⟨rfl, rfl⟩, rfl⟩
 have h0_0 := h0_0.mono hle40
 refine WL.a1 ?_
 refine WL.nil ?_
 refine WQ.blockN ?_
 refine WQ.thenFE h ?_
 exact ⟨hle40, rfl⟩
 have h := ite_f hb36 h
 refine Sr ?_
 refine Pm (pt g0 0) (hρ 0) rfl ?_
 refine Pu (pt g0 0) (PO.nilCheck rfl) rfl ?_
 refine Pu (pt g0 1) (PO.fieldAddr fo63_1 rfl rfl) rfl ?_
 refine Pu (.int .i64 a0.at_) (PO.loadB 0 pl3 rfl rfl rfl) rfl ?_
 refine Pu (.int .i64 (IntKind.i64.wrap (a0.at_ + 1))) (PO.add rfl rfl) rfl ?_
 refine Pu (pt g0 0) (PO.nilCheck rfl) rfl ?_
 refine Pu (pt g0 1) (PO.fieldAddr fo63_1 rfl rfl) rfl ?_
 refine WL.eff (EO.storeL (v := (.int .i64 (IntKind.i64.wrap (a0.at_ + 1)))) (vl := [(.int .i64 (IntKind.i64.wrap (a0.at_ + 1)))]) (arr' := [v0_0, (.int .i64 (IntKind.i64.wrap (a0.at_ + 1))), (GV a0.err)]) rfl sz3 rfl rfl (onesOf (Ones.cons rfl Ones.nil)) rfl rfl rfl) rfl ?_
 rintro _ _ _ - ⟨rfl, rfl⟩
 refine Nt ?_
 refine WC.seq ?_
 refine WC.draw [0, 1, 3, 7, 0, 16, 48, 112, 240, 511, 1023, 2047, 4095] (.pure 0 (.pure 1 (.pure 2 (.pure 3 (.pure 4 (.pure 5 (.pure 6 (.pure 7 (.pure 8 (.pure 9 (.pure 10 (.pure 11 (.pure 12 .done))))))))))))) mixed (by kernel_rfl) ?_
 refine Tp (pt g0 0) rfl (PO.move (hρ 0)) rfl ?_
 refine Tp (pt g0 0) rfl (PO.nilCheck rfl) rfl ?_
 refine Tp (pt g0 0) rfl (PO.fieldAddr fo63_0 rfl rfl) rfl ?_
 refine Tp v0_0 rfl (PO.loadB 0 pl28 rfl rfl rfl) rfl ?_
 refine Tp (pt g0 0) rfl (PO.move (hρ 0)) rfl ?_
 refine Tp (pt g0 0) rfl (PO.nilCheck rfl) rfl ?_
 refine Tp (pt g0 1) rfl (PO.fieldAddr fo63_1 rfl rfl) rfl ?_
 refine Tp (.int .i64 (IntKind.i64.wrap (a0.at_ + 1))) rfl (PO.loadB 0 pl3 rfl rfl rfl) rfl ?_
 refine Tp (.int .i64 (IntKind.i64.wrap ((IntKind.i64.wrap (a0.at_ + 1)) - 1))) rfl (PO.sub rfl rfl) rfl ?_
 obtain ⟨hg41, h⟩ := grd_i h
 obtain ⟨p42, cs43, hat44, hrc45, hhas46⟩ := h0_0.at hg41.1 hg41.2 (by decide)
 obtain rfl := hrc45
 refine Tp (.pointer (some p42)) rfl (PO.indexAddr (n := a0.b.length) Tryd.underlying28 sz5 rfl rfl hg41.1 hg41.2 hat44) rfl ?_
 refine Tp (.int .u8 (rd a0.b (IntKind.i64.wrap ((IntKind.i64.wrap (a0.at_ + 1)) - 1)))) rfl (PO.loadM pl5 rfl (IM.has0 hhas46)) rfl ?_
 refine Tp (.bool (decide ((rd a0.b (IntKind.i64.wrap ((IntKind.i64.wrap (a0.at_ + 1)) - 1))) = 1))) rfl (PO.eql rfl rfl) rfl ?_
 refine Tp (.bool (decide ((rd a0.b (IntKind.i64.wrap ((IntKind.i64.wrap (a0.at_ + 1)) - 1))) = 1))) rfl (PO.assign rfl) rfl ?_
 refine WT.fin ?_
 refine WQ.thenC ?_
 refine WC.ret ?_
 refine WQ.blockR ?_
 refine WQ.thenR ?_
 have h := KK.early h h322
 exact WQ.returnsF h [[(g0, .cells #[v0_0, (.int .i64 (IntKind.i64.wrap (a0.at_ + 1))), (GV a0.err)] 63 (0, 0))]] rfl (results1 rfl rfl) (IM.le.refl _) ⟨rfl, rfl⟩
 rintro x21 ρ22 M22 H22 rfl ⟨hle22, rfl⟩
 have h := (Sum.elim_inl _ _ _).symm.trans h
 have h0_0 := h0_0.mono hle22
 refine Sr ?_
 refine Pa (.bool false) rfl rfl ?_
 refine Nt ?_
 refine WC.ret ?_
 exact WQ.returnsF h [[(g0, .cells #[v0_0, (.int .i64 a0.at_), (GV x21)] 63 (0, 0))]] rfl (results1 rfl rfl) hle22 ⟨rfl, rfl⟩

noncomputable def f_slices_Clone_byte_byte (a0 : (List Int)) : Option (List Int) :=
  (grd (([] : List Int).length + a0.length ≤ 274877906944) (some (([] : List Int) ++ a0)))
def f_slices_Clone_byte_byte_post (a0 : (List Int)) (v0 : Value) : (List Int) → Value → IM → HL → Prop :=
  fun (r0 : (List Int)) (v : Value) (M' : IM) (H' : HL) => ∃ vz0 cz0, vz0 = v ∧ H' = [cz0] ∧ OwnS (Kd.int .u8) M' vz0 r0 cz0
theorem f_slices_Clone_byte_byte_ok (a0 : (List Int)) (M : IM) (v0 : Value) (h0 : RS (Kd.int .u8) M v0 a0) (res : (List Int)) (h : f_slices_Clone_byte_byte a0 = some res) :
    Tri Tryd.prog 69 #[v0] M [] (f_slices_Clone_byte_byte_post a0 v0 res) := by
 unfold f_slices_Clone_byte_byte at h
 refine Tri.enter (fn := Tryd.f69) Tryd.func69 rfl (Nat.le_of_ble_eq_true rfl) ?_
 intro F ρ hρ
 refine Sr ?_
 refine Pa (.slice none 0 0) rfl rfl ?_
 refine Nt ?_
 refine WC.seq ?_
 refine Sr ?_
 refine Pm v0 (hρ 0) rfl ?_
 refine Pu (.bool (nilS v0)) (PO.sliceNil Tryd.underlying28 rfl h0.len rfl) rfl ?_
 refine Nt ?_
 refine WC.cond (b := nilS v0) rfl (fun hb21 => ?_) (fun hb21 => ?_)
 obtain rfl := h0.nilxs (by decide) hb21
 have h := Eq.trans (a := ((some []) : Option (List Int))) (by simp [grd]) h
 refine Sr ?_
 refine Pa (.slice none 0 0) rfl rfl ?_
 refine Nt ?_
 refine WC.ret ?_
 refine WQ.thenR ?_
 refine WQ.e0 ?_
 exact WQ.returnsF h [[]] rfl (results1 rfl rfl) (IM.le.refl _) ⟨(.slice none 0 0), [], rfl, rfl, (OwnS.nil _ _)⟩
 refine WC.skip ?_
 refine WQ.thenC ?_
 refine Sr ?_
 refine WL.eff (EO.buildSliceL (cl := []) Tryd.underlying28 iz5 rfl Parts.nil rfl) rfl ?_
 rintro _ _ _ - ⟨rfl, g23, rfl, rfl⟩
 have h25 : OwnS (Kd.int .u8) M (.slice (some ⟨g23, 0, none⟩) 0 0) [] [(g23, .cells #[] 5 (0, 0))] := OwnS.rows (css := []) Rows.nil rfl rfl
 refine Pm v0 (hρ 0) rfl ?_
 obtain ⟨hg29, h⟩ := grd_i h
 refine WL.eff (EO.append (dd := (Kd.int .u8)) (xs := []) (ys := a0) Tryd.underlying28 Tryd.underlying28 in5 rfl (appB (by decide) hg29) (by decide) rfl rfl h25 (h0.src _)) rfl ?_
 rintro v28 _ _ - ⟨rfl, c26, rfl, h27⟩
 refine Pa v28 rfl rfl ?_
 refine Nt ?_
 refine WC.ret ?_
 exact WQ.returnsF h [c26] rfl (results1 rfl rfl) (IM.le.refl _) ⟨v28, c26, rfl, rfl, h27⟩

noncomputable def f_wire_Reader_Text (a0 : T_wire_Reader) (a1 : Int) : Option ((List Int) × Int × GErr) :=
  ((f_wire_Reader_Int a0 a1).bind fun (r21, r22, r23) => (if (!r23.isNil) = true then (some ([], r22, r23)) else (if (decide ((IntKind.i64.wrap ((a0.b.length : Int) - r22)) < r21)) = true then ((f_wire_Reader_fail (⟨a0.b, a0.at_, r23⟩ : T_wire_Reader) (⟨#[116, 101, 120, 116]⟩ : ByteArray) a0.at_ (3 : Int)).bind fun (r31 : GErr) => (some ([], a0.at_, r31))) else (grd (0 ≤ IntKind.i64.wrap ((IntKind.i64.wrap (r22 + r21)) - r21) ∧ IntKind.i64.wrap ((IntKind.i64.wrap (r22 + r21)) - r21) ≤ IntKind.i64.wrap (r22 + r21) ∧ IntKind.i64.wrap (r22 + r21) ≤ (a0.b.length : Int)) ((f_slices_Clone_byte_byte (sub a0.b (IntKind.i64.wrap ((IntKind.i64.wrap (r22 + r21)) - r21)) (IntKind.i64.wrap (r22 + r21)))).bind fun (r38 : (List Int)) => (some (r38, IntKind.i64.wrap (r22 + r21), r23)))))))
def f_wire_Reader_Text_post (a0 : T_wire_Reader) (a1 : Int) (v0_0 : Value) (g0 : Nat) : ((List Int) × Int × GErr) → Value → IM → HL → Prop :=
  fun (p_ : ((List Int) × Int × GErr)) (v : Value) (M' : IM) (H' : HL) => match p_ with | (r0, r1, r2) => ∃ vz0 cz0, vz0 = v ∧ H' = [[(g0, .cells #[v0_0, (.int .i64 r1), (GV r2)] 63 (0, 0))], cz0] ∧ OwnS (Kd.int .u8) M' vz0 r0 cz0
theorem f_wire_Reader_Text_ok (a0 : T_wire_Reader) (a1 : Int) (M : IM) (v0_0 : Value) (g0 : Nat) (h0_0 : RS (Kd.int .u8) M v0_0 a0.b) (res : ((List Int) × Int × GErr)) (h : f_wire_Reader_Text a0 a1 = some res) :
    Tri Tryd.prog 40 #[(pt g0 0), (.int .i64 a1)] M [[(g0, .cells #[v0_0, (.int .i64 a0.at_), (GV a0.err)] 63 (0, 0))]] (f_wire_Reader_Text_post a0 a1 v0_0 g0 res) := by
 unfold f_wire_Reader_Text at h
 refine Tri.enter (fn := Tryd.f40) Tryd.func40 rfl (Nat.le_of_ble_eq_true rfl) ?_
 intro F ρ hρ
 refine Sr ?_
 refine Pa (.slice none 0 0) rfl rfl ?_
 refine Ns ?_
 refine Pm (pt g0 0) (hρ 0) rfl ?_
 refine Pu (pt g0 0) (PO.nilCheck rfl) rfl ?_
 refine Pu (pt g0 1) (PO.fieldAddr fo63_1 rfl rfl) rfl ?_
 refine Pu (.int .i64 a0.at_) (PO.loadB 0 pl3 rfl rfl rfl) rfl ?_
 refine Pa (.int .i64 a0.at_) rfl rfl ?_
 refine Ns ?_
 refine Pm (pt g0 0) (hρ 0) rfl ?_
 refine Pm (.int .i64 a1) (hρ 1) rfl ?_
 obtain ⟨⟨r21, r22, r23⟩, hr24, h⟩ := bnd h
 refine WL.eff (EO.call1 co35 (f_wire_Reader_Int_ok a0 a1 _ _ _ h0_0 (r21, r22, r23) hr24) (args2 rfl rfl)) rfl ?_
 rintro _ M25 _ hle26 ⟨_, ⟨rfl, rfl⟩, rfl⟩
 have h0_0 := h0_0.mono hle26
 refine WL.a1 ?_
 refine Pa (.int .i64 r21) rfl rfl ?_
 refine Nt ?_
 refine WC.seq ?_
 refine Sr ?_
 refine Pm (pt g0 0) (hρ 0) rfl ?_
 refine Pu (pt g0 0) (PO.nilCheck rfl) rfl ?_
 refine Pu (pt g0 2) (PO.fieldAddr fo63_2 rfl rfl) rfl ?_
 refine Pu (GV r23) (PO.loadB 0 pl30 rfl rfl rfl) rfl ?_
 refine Pu (.bool (!r23.isNil)) (PO.errNotNil Tryd.underlying30 rfl) rfl ?_
 refine Nt ?_
 refine WC.cond (b := !r23.isNil) rfl (fun hb28 => ?_) (fun hb28 => ?_)
 have h := ite_t hb28 h
 refine Sr ?_
 refine Pa (.slice none 0 0) rfl rfl ?_
 refine Nt ?_
 refine WC.ret ?_
 refine WQ.thenR ?_
 refine WQ.e0 ?_
 refine WQ.f1 ?_
 exact WQ.returnsF h [[(g0, .cells #[v0_0, (.int .i64 r22), (GV r23)] 63 (0, 0))], []] rfl (results1 rfl rfl) hle26 ⟨(.slice none 0 0), [], rfl, rfl, (OwnS.nil _ _)⟩
 have h := ite_f hb28 h
 refine WC.skip ?_
 refine WQ.thenC ?_
 refine WC.seq ?_
 refine WC.seq ?_
 refine WC.draw [0, 0, 2, 6, 14, 30, 0, 64, 192, 448, 1022, 2047] (.pure 0 (.pure 1 (.pure 2 (.pure 3 (.pure 4 (.pure 5 (.pure 6 (.pure 7 (.pure 8 (.pure 9 (.pure 10 (.pure 11 .done)))))))))))) mixed (by kernel_rfl) ?_
 refine Tp (.int .i64 r21) rfl (PO.move rfl) rfl ?_
 refine Tp (pt g0 0) rfl (PO.move (hρ 0)) rfl ?_
 refine Tp (pt g0 0) rfl (PO.nilCheck rfl) rfl ?_
 refine Tp (pt g0 0) rfl (PO.fieldAddr fo63_0 rfl rfl) rfl ?_
 refine Tp v0_0 rfl (PO.loadB 0 pl28 rfl rfl rfl) rfl ?_
 refine Tp (.int .i64 (a0.b.length : Int)) rfl (PO.lenS Tryd.underlying28 rfl h0_0.len) rfl ?_
 refine Tp (pt g0 0) rfl (PO.move (hρ 0)) rfl ?_
 refine Tp (pt g0 0) rfl (PO.nilCheck rfl) rfl ?_
 refine Tp (pt g0 1) rfl (PO.fieldAddr fo63_1 rfl rfl) rfl ?_
 refine Tp (.int .i64 r22) rfl (PO.loadB 0 pl3 rfl rfl rfl) rfl ?_
 refine Tp (.int .i64 (IntKind.i64.wrap ((a0.b.length : Int) - r22))) rfl (PO.sub rfl rfl) rfl ?_
 refine Tp (.bool (decide ((IntKind.i64.wrap ((a0.b.length : Int) - r22)) < r21))) rfl (PO.gtr rfl rfl) rfl ?_
 refine WT.fin ?_
 refine WQ.thenC ?_
 refine WC.cond (b := decide ((IntKind.i64.wrap ((a0.b.length : Int) - r22)) < r21)) rfl (fun hb30 => ?_) (fun hb30 => ?_)
 have h := ite_t hb30 h
 refine Sr ?_
 refine Pm (pt g0 0) (hρ 0) rfl ?_
 refine Pm (.int .i64 a0.at_) rfl rfl ?_
 refine Pu (pt g0 0) (PO.nilCheck rfl) rfl ?_
 refine Pu (pt g0 1) (PO.fieldAddr fo63_1 rfl rfl) rfl ?_
 refine WL.eff (EO.storeL (v := (.int .i64 a0.at_)) (vl := [(.int .i64 a0.at_)]) (arr' := [v0_0, (.int .i64 a0.at_), (GV r23)]) rfl sz3 rfl rfl (onesOf (Ones.cons rfl Ones.nil)) rfl rfl rfl) rfl ?_
 rintro _ _ _ - ⟨rfl, rfl⟩
 refine Ns ?_
 refine Pm (pt g0 0) (hρ 0) rfl ?_
 refine Pm (.int .i64 a0.at_) rfl rfl ?_
 obtain ⟨r31, hr32, h⟩ := bnd h
 refine WL.eff (EO.call1 co46 (f_wire_Reader_fail_ok (⟨a0.b, a0.at_, r23⟩ : T_wire_Reader) (⟨#[116, 101, 120, 116]⟩ : ByteArray) a0.at_ (3 : Int) _ _ _ h0_0 r31 hr32) (args4 rfl rfl rfl rfl)) rfl ?_
 rintro _ M33 _ hle34 ⟨_, ⟨rfl, rfl⟩, rfl⟩
 have h0_0 := h0_0.mono hle34
 refine WL.a1 ?_
 refine Ns ?_
 refine Pa (.slice none 0 0) rfl rfl ?_
 refine Nt ?_
 refine WC.ret ?_
 refine WQ.thenR ?_
 refine WQ.e0 ?_
 refine WQ.f1 ?_
 exact WQ.returnsF h [[(g0, .cells #[v0_0, (.int .i64 a0.at_), (GV r31)] 63 (0, 0))], []] rfl (results1 rfl rfl) (hle26.trans hle34) ⟨(.slice none 0 0), [], rfl, rfl, (OwnS.nil _ _)⟩
 have h := ite_f hb30 h
 refine WC.skip ?_
 refine WQ.thenC ?_
 refine Sr ?_
 refine Pm (pt g0 0) (hρ 0) rfl ?_
 refine Pu (pt g0 0) (PO.nilCheck rfl) rfl ?_
 refine Pu (pt g0 1) (PO.fieldAddr fo63_1 rfl rfl) rfl ?_
 refine Pu (.int .i64 r22) (PO.loadB 0 pl3 rfl rfl rfl) rfl ?_
 refine Pm (.int .i64 r21) rfl rfl ?_
 refine Pu (.int .i64 (IntKind.i64.wrap (r22 + r21))) (PO.add rfl rfl) rfl ?_
 refine Pu (pt g0 0) (PO.nilCheck rfl) rfl ?_
 refine Pu (pt g0 1) (PO.fieldAddr fo63_1 rfl rfl) rfl ?_
 refine WL.eff (EO.storeL (v := (.int .i64 (IntKind.i64.wrap (r22 + r21)))) (vl := [(.int .i64 (IntKind.i64.wrap (r22 + r21)))]) (arr' := [v0_0, (.int .i64 (IntKind.i64.wrap (r22 + r21))), (GV r23)]) rfl sz3 rfl rfl (onesOf (Ones.cons rfl Ones.nil)) rfl rfl rfl) rfl ?_
 rintro _ _ _ - ⟨rfl, rfl⟩
 refine Nt ?_
 refine WC.seq ?_
 refine WC.draw [0, 1, 3, 7, 0, 16, 48, 112, 0, 496, 0, 1024, 3072, 7168, 16383, 32767, 65535] (.pure 0 (.pure 1 (.pure 2 (.pure 3 (.pure 4 (.pure 5 (.pure 6 (.pure 7 (.pure 8 (.pure 9 (.pure 10 (.pure 11 (.pure 12 (.pure 13 (.pure 14 (.alt 15 (.pure 16 .done) .none)))))))))))))))) mixed (by kernel_rfl) ?_
 refine Tp (pt g0 0) rfl (PO.move (hρ 0)) rfl ?_
 refine Tp (pt g0 0) rfl (PO.nilCheck rfl) rfl ?_
 refine Tp (pt g0 0) rfl (PO.fieldAddr fo63_0 rfl rfl) rfl ?_
 refine Tp v0_0 rfl (PO.loadB 0 pl28 rfl rfl rfl) rfl ?_
 refine Tp (pt g0 0) rfl (PO.move (hρ 0)) rfl ?_
 refine Tp (pt g0 0) rfl (PO.nilCheck rfl) rfl ?_
 refine Tp (pt g0 1) rfl (PO.fieldAddr fo63_1 rfl rfl) rfl ?_
 refine Tp (.int .i64 (IntKind.i64.wrap (r22 + r21))) rfl (PO.loadB 0 pl3 rfl rfl rfl) rfl ?_
 refine Tp (.int .i64 r21) rfl (PO.move rfl) rfl ?_
 refine Tp (.int .i64 (IntKind.i64.wrap ((IntKind.i64.wrap (r22 + r21)) - r21))) rfl (PO.sub rfl rfl) rfl ?_
 refine Tp (pt g0 0) rfl (PO.move (hρ 0)) rfl ?_
 refine Tp (pt g0 0) rfl (PO.nilCheck rfl) rfl ?_
 refine Tp (pt g0 1) rfl (PO.fieldAddr fo63_1 rfl rfl) rfl ?_
 refine Tp (.int .i64 (IntKind.i64.wrap (r22 + r21))) rfl (PO.loadB 0 pl3 rfl rfl rfl) rfl ?_
 obtain ⟨hg36, h⟩ := grd_i h
 have h37 := h0_0.sub hg36.1 hg36.2.1 hg36.2.2
 refine Tp (slV v0_0 1 (IntKind.i64.wrap ((IntKind.i64.wrap (r22 + r21)) - r21)).toNat (IntKind.i64.wrap (r22 + r21)).toNat) rfl (PO.slice (n := a0.b.length) (l := (IntKind.i64.wrap ((IntKind.i64.wrap (r22 + r21)) - r21)).toNat) (h := (IntKind.i64.wrap (r22 + r21)).toNat) Tryd.underlying28 sz5 rfl h0_0.len h0_0.cap ⟨_, _, rfl, hg36.1, rfl⟩ ⟨_, _, rfl, (Int.le_trans hg36.1 hg36.2.1), rfl⟩ (Int.toNat_le_toNat hg36.2.1) (toNat_le_len hg36.2.2)) rfl ?_
 obtain ⟨r38, hr39, h⟩ := bnd h
 refine WT.alt rfl (EO.call0 co69 (f_slices_Clone_byte_byte_ok (sub a0.b (IntKind.i64.wrap ((IntKind.i64.wrap (r22 + r21)) - r21)) (IntKind.i64.wrap (r22 + r21))) _ _ h37 r38 hr39) (args1 rfl)) rfl ?_ ?_
 rintro _ M40 _ hle41 ⟨_, ⟨vq42, cq42, rfl, rfl, hq42⟩, rfl⟩
 have h0_0 := h0_0.mono hle41
 have h37 := h37.mono hle41
 refine ⟨(StabL.anc rfl (StabL.anc rfl (StabL.anc rfl (StabL.anc rfl (StabL.anc rfl (StabL.anc rfl (StabL.anc rfl (StabL.anc rfl (StabL.anc rfl (StabL.anc rfl (StabL.anc rfl (StabL.anc rfl (StabL.anc rfl (StabL.anc rfl (StabL.anc rfl trivial))))))))))))))), ?_⟩
 refine WT.a1 ?_
 refine Tp vq42 rfl (PO.assign rfl) rfl ?_
 refine WT.fin ?_
 refine WQ.thenC ?_
 refine WC.ret ?_
 refine WQ.f1 ?_
 exact WQ.returnsF h [[(g0, .cells #[v0_0, (.int .i64 (IntKind.i64.wrap (r22 + r21))), (GV r23)] 63 (0, 0))], cq42] rfl (results1 rfl rfl) (hle26.trans hle41) ⟨vq42, cq42, rfl, rfl, hq42⟩
 exact WT.no

noncomputable def f_record_Read_2 (a0 : Int) (a1 : Int) (a2q : T_wire_Reader) : Option (ByteArray × Int × GErr) :=
  (if (decide ((andI .i64 a1 a0) = (0 : Int))) = true then (some ((⟨#[]⟩ : ByteArray), a2q.at_, a2q.err)) else ((f_wire_Reader_Text a2q (256 : Int)).bind fun (r22, r23, r24) => (some (strOfNums r22, r23, r24))))
def f_record_Read_2_post (a0 : Int) (a1 : Int) (a2q : T_wire_Reader) (v2q_0 : Value) (g1 g2 g2q : Nat) : (ByteArray × Int × GErr) → Value → IM → HL → Prop :=
  fun (p_ : (ByteArray × Int × GErr)) (v : Value) (M' : IM) (H' : HL) => match p_ with | (r0, r1, r2) => (.string r0) = v ∧ H' = [[(g1, .cells #[(.int .i64 a1)] 3 (0, 0))], [(g2q, .cells #[v2q_0, (.int .i64 r1), (GV r2)] 63 (0, 0))], [(g2, .cells #[(.pointer (some ⟨g2q, 0, none⟩))] 33 (0, 0))]]
theorem f_record_Read_2_ok (a0 : Int) (a1 : Int) (a2q : T_wire_Reader) (M : IM) (v2q_0 : Value) (g1 g2 g2q : Nat) (h2q_0 : RS (Kd.int .u8) M v2q_0 a2q.b) (res : (ByteArray × Int × GErr)) (h : f_record_Read_2 a0 a1 a2q = some res) :
    Tri Tryd.prog 39 #[(.int .i64 a0), (pt g1 0), (pt g2 0)] M [[(g1, .cells #[(.int .i64 a1)] 3 (0, 0))], [(g2q, .cells #[v2q_0, (.int .i64 a2q.at_), (GV a2q.err)] 63 (0, 0))], [(g2, .cells #[(pt g2q 0)] 33 (0, 0))]] (f_record_Read_2_post a0 a1 a2q v2q_0 g1 g2 g2q res) := by
 unfold f_record_Read_2 at h
 refine Tri.enter (fn := Tryd.f39) Tryd.func39 rfl (Nat.le_of_ble_eq_true rfl) ?_
 intro F ρ hρ
 refine Sr ?_
 refine Pa (.string ⟨#[]⟩) rfl rfl ?_
 refine Nt ?_
 refine WC.seq ?_
 refine Sr ?_
 refine Pu (.int .i64 a1) (PO.loadB 0 pl3 (hρ 1) rfl rfl) rfl ?_
 refine Pm (.int .i64 a0) (hρ 0) rfl ?_
 refine Pu (.int .i64 (andI .i64 a1 a0)) (PO.and rfl rfl) rfl ?_
 refine Pu (.bool (decide ((andI .i64 a1 a0) = 0))) (PO.eql rfl rfl) rfl ?_
 refine Nt ?_
 refine WC.cond (b := decide ((andI .i64 a1 a0) = 0)) rfl (fun hb21 => ?_) (fun hb21 => ?_)
 have h := ite_t hb21 h
 refine Sr ?_
 refine Pa (.string ⟨#[]⟩) rfl rfl ?_
 refine Nt ?_
 refine WC.ret ?_
 refine WQ.thenR ?_
 exact WQ.returnsF h [[(g1, .cells #[(.int .i64 a1)] 3 (0, 0))], [(g2q, .cells #[v2q_0, (.int .i64 a2q.at_), (GV a2q.err)] 63 (0, 0))], [(g2, .cells #[(pt g2q 0)] 33 (0, 0))]] rfl (results1 rfl rfl) (IM.le.refl _) ⟨rfl, rfl⟩
 have h := ite_f hb21 h
 refine WC.skip ?_
 refine WQ.thenC ?_
 refine Sr ?_
 refine Pu (pt g2q 0) (PO.loadB 2 pl33 (hρ 2) rfl rfl) rfl ?_
 obtain ⟨⟨r22, r23, r24⟩, hr25, h⟩ := bnd h
 refine WL.f1 ?_
 refine WL.eff (EO.call1 co40 (f_wire_Reader_Text_ok a2q (256 : Int) _ _ _ h2q_0 (r22, r23, r24) hr25) (args2 rfl rfl)) rfl ?_
 rintro _ M26 _ hle27 ⟨_, ⟨vq28, cq28, rfl, rfl, hq28⟩, rfl⟩
 have h2q_0 := h2q_0.mono hle27
 refine WL.a2 ?_
 refine Pu (.string (strOfNums r22)) (PO.b2s (ys := r22) Tryd.underlying28 Tryd.underlying5 Tryd.underlying9 rfl (hq28.src 1 rfl)) rfl ?_
 refine Pa (.string (strOfNums r22)) rfl rfl ?_
 refine Nt ?_
 refine WC.ret ?_
 refine WQ.f1 ?_
 refine WQ.drop ?_
 refine WQ.f2 ?_
 refine WQ.f1 ?_
 refine WQ.f2 ?_
 exact WQ.returnsF h [[(g1, .cells #[(.int .i64 a1)] 3 (0, 0))], [(g2q, .cells #[v2q_0, (.int .i64 r23), (GV r24)] 63 (0, 0))], [(g2, .cells #[(pt g2q 0)] 33 (0, 0))]] rfl (results1 rfl rfl) hle27 ⟨rfl, rfl⟩

noncomputable def f_wire_Reader_Row_l0 (a0 : T_wire_Reader) (a2 : Int) (r21 : Int) (s_ : ((List Int) × Int × Int × GErr)) : Option (((List Int) × Int × Int × GErr) ⊕ ((List Int) × Int × GErr)) :=
  match s_ with
  | (x33, x34, x35, x36) =>
    (((if (decide (x34 < r21)) = true then (some x36.isNil) else (some false)) : Option Bool).bind fun (x40 : Bool) => (if x40 = true then ((f_wire_Reader_Int (⟨a0.b, x35, x36⟩ : T_wire_Reader) a2).bind fun (r44, r45, r46) => (grd (x33.length + [r44].length ≤ 274877906944) (some (Sum.inl (x33 ++ [r44], IntKind.i64.wrap (x34 + (1 : Int)), r45, r46))))) else (some (Sum.inr (x33, x35, x36)))))
noncomputable def f_wire_Reader_Row (a0 : T_wire_Reader) (a1 : Int) (a2 : Int) : Option ((List Int) × Int × GErr) :=
  ((f_wire_Reader_Int a0 a1).bind fun (r21, r22, r23) => ((((iter (f_wire_Reader_Row_l0 a0 a2 r21) ([], (0 : Int), r22, r23)).bind (fun (x37, x38, x39) => (some (x37, x38, x39)))) : Option ((List Int) × Int × GErr)).bind fun (x28, x29, x30) => (if (!x30.isNil) = true then (some ([], x29, x30)) else (some (x28, x29, x30)))))
def f_wire_Reader_Row_post (a0 : T_wire_Reader) (a1 : Int) (a2 : Int) (v0_0 : Value) (g0 : Nat) : ((List Int) × Int × GErr) → Value → IM → HL → Prop :=
  fun (p_ : ((List Int) × Int × GErr)) (v : Value) (M' : IM) (H' : HL) => match p_ with | (r0, r1, r2) => ∃ vz0 cz0, vz0 = v ∧ H' = [[(g0, .cells #[v0_0, (.int .i64 r1), (GV r2)] 63 (0, 0))], cz0] ∧ OwnS (Kd.int .i64) M' vz0 r0 cz0
theorem f_wire_Reader_Row_ok (a0 : T_wire_Reader) (a1 : Int) (a2 : Int) (M : IM) (v0_0 : Value) (g0 : Nat) (h0_0 : RS (Kd.int .u8) M v0_0 a0.b) (res : ((List Int) × Int × GErr)) (h : f_wire_Reader_Row a0 a1 a2 = some res) :
    Tri Tryd.prog 42 #[(pt g0 0), (.int .i64 a1), (.int .i64 a2)] M [[(g0, .cells #[v0_0, (.int .i64 a0.at_), (GV a0.err)] 63 (0, 0))]] (f_wire_Reader_Row_post a0 a1 a2 v0_0 g0 res) := by
 unfold f_wire_Reader_Row at h
 refine Tri.enter (fn := Tryd.f42) Tryd.func42 rfl (Nat.le_of_ble_eq_true rfl) ?_
 intro F ρ hρ
 refine Sr ?_
 refine Pa (.slice none 0 0) rfl rfl ?_
 refine Ns ?_
 refine Pm (pt g0 0) (hρ 0) rfl ?_
 refine Pm (.int .i64 a1) (hρ 1) rfl ?_
 obtain ⟨⟨r21, r22, r23⟩, hr24, h⟩ := bnd h
 refine WL.eff (EO.call1 co35 (f_wire_Reader_Int_ok a0 a1 _ _ _ h0_0 (r21, r22, r23) hr24) (args2 rfl rfl)) rfl ?_
 rintro _ M25 _ hle26 ⟨_, ⟨rfl, rfl⟩, rfl⟩
 have h0_0 := h0_0.mono hle26
 refine WL.a1 ?_
 refine Pa (.int .i64 r21) rfl rfl ?_
 refine Ns ?_
 refine Pa (.slice none 0 0) rfl rfl ?_
 refine Nt ?_
 obtain ⟨j31, hj31, h⟩ := bnd h
 refine WC.joinF (fun (p_ : ((List Int) × Int × GErr)) ρ' M' H' => match p_ with | (x28, x29, x30) => ∃ vx28 cx28, M25.le M' ∧ [(g0, .cells #[v0_0, (.int .i64 x29), (GV x30)] 63 (0, 0))] :: cx28 :: F = H' ∧ ρ' 0 = (pt g0 0) ∧ ρ' 8 = vx28 ∧ OwnS (Kd.int .i64) M' vx28 x28 cx28) j31 ?_ ?_
 have h331 := h
 have h := hj31
 refine Sr ?_
 refine Pa (.int .i64 0) rfl rfl ?_
 refine Nt ?_
 refine WC.block ?_
 refine WC.e0 ?_
 refine WC.f1 ?_
 obtain ⟨e32, he32, hK32⟩ := bnd h
 clear h
 refine WC.loop he32 (fun (p_ : ((List Int) × Int × Int × GErr)) ρ' M' H' => match p_ with | (x33, x34, x35, x36) => ∃ vx33 cx33, M25.le M' ∧ [(g0, .cells #[v0_0, (.int .i64 x35), (GV x36)] 63 (0, 0))] :: cx33 :: F = H' ∧ ρ' 0 = (pt g0 0) ∧ ρ' 2 = (.int .i64 a2) ∧ ρ' 7 = (.int .i64 r21) ∧ ρ' 8 = vx33 ∧ ρ' 9 = (.int .i64 x34) ∧ OwnS (Kd.int .i64) M' vx33 x33 cx33) ?_ ?_
 exact ⟨(.slice none 0 0), [], (IM.le.refl _), rfl, (hρ 0), (hρ 2), rfl, rfl, rfl, (OwnS.nil _ _)⟩
 rintro ⟨x33, x34, x35, x36⟩ o32 ρ32 M32 H32 h ⟨vx33, cx33, hle32, rfl, hs32_0, hs32_2, hs32_7, hs32_8, hs32_9, hx33⟩
 unfold f_wire_Reader_Row_l0 at h
 have h0_0 := h0_0.mono hle32
 refine WC.seq ?_
 obtain ⟨x40, hj41, h⟩ := bnd h
 refine WC.joinF (fun (x40 : Bool) ρ' M' H' => M32.le M' ∧ [(g0, .cells #[v0_0, (.int .i64 x35), (GV x36)] 63 (0, 0))] :: cx33 :: F = H' ∧ ρ' 0 = (pt g0 0) ∧ ρ' 2 = (.int .i64 a2) ∧ ρ' 7 = (.int .i64 r21) ∧ ρ' 8 = vx33 ∧ ρ' 9 = (.int .i64 x34) ∧ ρ' 22 = (.bool x40)) x40 ?_ ?_
 have h341 := h
 have h := hj41
 refine WC.region ?_
 refine Pm (.int .i64 x34) hs32_9 rfl ?_
 refine Pm (.int .i64 r21) hs32_7 rfl ?_
 refine Pu (.bool (decide (x34 < r21))) (PO.lss rfl rfl) rfl ?_
 refine Pm (.bool (decide (x34 < r21))) rfl rfl ?_
 rcases Bool.eq_false_or_eq_true (decide (x34 < r21)) with hb42 | hb42
 have h := ite_t hb42 h
 refine On 16 rfl rfl hb42 ?_
 refine Pm (pt g0 0) hs32_0 rfl ?_
 refine On 16 rfl rfl hb42 ?_
 refine Pu (pt g0 0) (PO.nilCheck rfl) rfl ?_
 refine On 16 rfl rfl hb42 ?_
 refine Pu (pt g0 2) (PO.fieldAddr fo63_2 rfl rfl) rfl ?_
 refine On 16 rfl rfl hb42 ?_
 refine Pu (GV x36) (PO.loadB 0 pl30 rfl rfl rfl) rfl ?_
 refine On 16 rfl rfl hb42 ?_
 refine Pu (.bool x36.isNil) (PO.errNil Tryd.underlying30 rfl) rfl ?_
 refine Pu (.bool x36.isNil) (PO.pickT rfl hb42 rfl) rfl ?_
 refine WL.nil ?_
 obtain rfl := Option.some.inj h
 refine WQ.thenJ ?_
 exact ⟨(IM.le.refl _), rfl, hs32_0, hs32_2, hs32_7, hs32_8, hs32_9, rfl⟩
 have h := ite_f hb42 h
 iterate 5 refine Of 16 rfl rfl hb42 rfl ?_
 refine Pu (.bool false) (PO.pickF rfl hb42 rfl) rfl ?_
 refine WL.nil ?_
 obtain rfl := Option.some.inj h
 refine WQ.thenJ ?_
 exact ⟨(IM.le.refl _), rfl, hs32_0, hs32_2, hs32_7, hs32_8, hs32_9, rfl⟩
 rintro ρ41 M41 H41 ⟨hle41, rfl, hs41_0, hs41_2, hs41_7, hs41_8, hs41_9, hs41_22⟩
 have hx33 := hx33.mono hle41
 have h0_0 := h0_0.mono hle41
 refine WC.cond (b := x40) hs41_22 (fun hb43 => ?_) (fun hb43 => ?_)
 have h := ite_t hb43 h
 refine WC.skip ?_
 refine WQ.thenC ?_
 refine WC.seq ?_
 refine WC.block ?_
 refine WC.region ?_
 refine Pm vx33 hs41_8 rfl ?_
 refine Pm (pt g0 0) hs41_0 rfl ?_
 refine Pm (.int .i64 a2) hs41_2 rfl ?_
 obtain ⟨⟨r44, r45, r46⟩, hr47, h⟩ := bnd h
 refine WL.eff (EO.call1 co35 (f_wire_Reader_Int_ok (⟨a0.b, x35, x36⟩ : T_wire_Reader) a2 _ _ _ h0_0 (r44, r45, r46) hr47) (args2 rfl rfl)) rfl ?_
 rintro _ M48 _ hle49 ⟨_, ⟨rfl, rfl⟩, rfl⟩
 have hx33 := hx33.mono hle49
 have h0_0 := h0_0.mono hle49
 refine WL.a1 ?_
 refine WL.eff (EO.buildSliceL (cl := [(.int .i64 r44)]) Tryd.underlying22 iz3 rfl (Parts.cons (congrArg Value.cells (show ev _ _ = (.int .i64 r44) from rfl)) Parts.nil) rfl) rfl ?_
 rintro _ _ _ - ⟨rfl, g51, rfl, rfl⟩
 have h53 : OwnS (Kd.int .i64) M48 (.slice (some ⟨g51, 0, none⟩) 1 1) [r44] [(g51, .cells #[(.int .i64 r44)] 3 (0, 0))] := OwnS.rows (css := [[(.int .i64 r44)]]) (Rows.cons rfl Rows.nil) rfl rfl
 obtain ⟨hg57, h⟩ := grd_i h
 refine WL.f2 ?_
 refine WL.eff (EO.append (dd := (Kd.int .i64)) (xs := x33) (ys := [r44]) Tryd.underlying22 Tryd.underlying22 in3 rfl (appB (by decide) hg57) (by decide) rfl rfl hx33 (h53.src 1 rfl)) rfl ?_
 rintro v56 _ _ - ⟨rfl, c54, rfl, h55⟩
 refine Pa v56 rfl rfl ?_
 refine WL.nil ?_
 refine WQ.blockN ?_
 refine WQ.thenC ?_
 refine WC.region ?_
 refine Pm (.int .i64 x34) hs41_9 rfl ?_
 refine Pu (.int .i64 (IntKind.i64.wrap (x34 + 1))) (PO.add rfl rfl) rfl ?_
 refine Pa (.int .i64 (IntKind.i64.wrap (x34 + 1))) rfl rfl ?_
 refine WL.nil ?_
 refine WQ.f1 ?_
 refine WQ.drop ?_
 refine WQ.f1 ?_
 refine WQ.again (x33 ++ [r44], IntKind.i64.wrap (x34 + 1), r45, r46) (Option.some.inj h).symm ?_
 exact ⟨v56, c54, ((hle32.trans hle41).trans hle49), rfl, hs41_0, hs41_2, hs41_7, rfl, rfl, h55⟩
 have h := ite_f hb43 h
 refine WC.exit ?_
 refine WQ.thenE ?_
 refine WQ.leaveE (x33, x35, x36) (Option.some.inj h).symm (fun heq32 => ?_)
 subst heq32
 have h := hK32
 refine WQ.blockH ?_
 obtain rfl := Option.some.inj h
 refine WQ.thenJ ?_
 exact ⟨vx33, cx33, (hle32.trans hle41), rfl, hs41_0, hs41_8, hx33⟩
 obtain ⟨x28, x29, x30⟩ := j31
 rintro ρ31 M31 H31 ⟨vx28, cx28, hle31, rfl, hs31_0, hs31_8, hx28⟩
 have h0_0 := h0_0.mono hle31
 refine WC.seq ?_
 refine Sr ?_
 refine Pm (pt g0 0) hs31_0 rfl ?_
 refine Pu (pt g0 0) (PO.nilCheck rfl) rfl ?_
 refine Pu (pt g0 2) (PO.fieldAddr fo63_2 rfl rfl) rfl ?_
 refine Pu (GV x30) (PO.loadB 0 pl30 rfl rfl rfl) rfl ?_
 refine Pu (.bool (!x30.isNil)) (PO.errNotNil Tryd.underlying30 rfl) rfl ?_
 refine Nt ?_
 refine WC.cond (b := !x30.isNil) rfl (fun hb59 => ?_) (fun hb59 => ?_)
 have h := ite_t hb59 h
 refine Sr ?_
 refine Pa (.slice none 0 0) rfl rfl ?_
 refine Nt ?_
 refine WC.ret ?_
 refine WQ.thenR ?_
 refine WQ.e0 ?_
 refine WQ.f2 ?_
 refine WQ.drop ?_
 refine WQ.f1 ?_
 exact WQ.returnsF h [[(g0, .cells #[v0_0, (.int .i64 x29), (GV x30)] 63 (0, 0))], []] rfl (results1 rfl rfl) (hle26.trans hle31) ⟨(.slice none 0 0), [], rfl, rfl, (OwnS.nil _ _)⟩
 have h := ite_f hb59 h
 refine WC.skip ?_
 refine WQ.thenC ?_
 refine Sr ?_
 refine Pm vx28 hs31_8 rfl ?_
 refine Pa vx28 rfl rfl ?_
 refine Nt ?_
 refine WC.ret ?_
 exact WQ.returnsF h [[(g0, .cells #[v0_0, (.int .i64 x29), (GV x30)] 63 (0, 0))], cx28] rfl (results1 rfl rfl) (hle26.trans hle31) ⟨vx28, cx28, rfl, rfl, hx28⟩

noncomputable def f_record_Read_3 (a0 : Int) (a1 : Int) (a2q : T_wire_Reader) : Option ((List Int) × Int × GErr) :=
  (if (decide ((andI .i64 a1 a0) = (0 : Int))) = true then (some ([], a2q.at_, a2q.err)) else ((f_wire_Reader_Row a2q (7 : Int) (64 : Int)).bind fun (r23, r24, r25) => (some (r23, r24, r25))))
def f_record_Read_3_post (a0 : Int) (a1 : Int) (a2q : T_wire_Reader) (v2q_0 : Value) (g1 g2 g2q : Nat) : ((List Int) × Int × GErr) → Value → IM → HL → Prop :=
  fun (p_ : ((List Int) × Int × GErr)) (v : Value) (M' : IM) (H' : HL) => match p_ with | (r0, r1, r2) => ∃ vz0 cz0, vz0 = v ∧ H' = [[(g1, .cells #[(.int .i64 a1)] 3 (0, 0))], [(g2q, .cells #[v2q_0, (.int .i64 r1), (GV r2)] 63 (0, 0))], [(g2, .cells #[(.pointer (some ⟨g2q, 0, none⟩))] 33 (0, 0))], cz0] ∧ OwnS (Kd.int .i64) M' vz0 r0 cz0
theorem f_record_Read_3_ok (a0 : Int) (a1 : Int) (a2q : T_wire_Reader) (M : IM) (v2q_0 : Value) (g1 g2 g2q : Nat) (h2q_0 : RS (Kd.int .u8) M v2q_0 a2q.b) (res : ((List Int) × Int × GErr)) (h : f_record_Read_3 a0 a1 a2q = some res) :
    Tri Tryd.prog 41 #[(.int .i64 a0), (pt g1 0), (pt g2 0)] M [[(g1, .cells #[(.int .i64 a1)] 3 (0, 0))], [(g2q, .cells #[v2q_0, (.int .i64 a2q.at_), (GV a2q.err)] 63 (0, 0))], [(g2, .cells #[(pt g2q 0)] 33 (0, 0))]] (f_record_Read_3_post a0 a1 a2q v2q_0 g1 g2 g2q res) := by
 unfold f_record_Read_3 at h
 refine Tri.enter (fn := Tryd.f41) Tryd.func41 rfl (Nat.le_of_ble_eq_true rfl) ?_
 intro F ρ hρ
 refine Sr ?_
 refine Pa (.slice none 0 0) rfl rfl ?_
 refine Nt ?_
 refine WC.seq ?_
 refine Sr ?_
 refine Pu (.int .i64 a1) (PO.loadB 0 pl3 (hρ 1) rfl rfl) rfl ?_
 refine Pm (.int .i64 a0) (hρ 0) rfl ?_
 refine Pu (.int .i64 (andI .i64 a1 a0)) (PO.and rfl rfl) rfl ?_
 refine Pu (.bool (decide ((andI .i64 a1 a0) = 0))) (PO.eql rfl rfl) rfl ?_
 refine Nt ?_
 refine WC.cond (b := decide ((andI .i64 a1 a0) = 0)) rfl (fun hb21 => ?_) (fun hb21 => ?_)
 have h := ite_t hb21 h
 refine Sr ?_
 refine Pa (.slice none 0 0) rfl rfl ?_
 refine Nt ?_
 refine WC.ret ?_
 refine WQ.thenR ?_
 refine WQ.e0 ?_
 refine WQ.f3 ?_
 refine WQ.f3 ?_
 refine WQ.f3 ?_
 exact WQ.returnsF h [[(g1, .cells #[(.int .i64 a1)] 3 (0, 0))], [(g2q, .cells #[v2q_0, (.int .i64 a2q.at_), (GV a2q.err)] 63 (0, 0))], [(g2, .cells #[(pt g2q 0)] 33 (0, 0))], []] rfl (results1 rfl rfl) (IM.le.refl _) ⟨(.slice none 0 0), [], rfl, rfl, (OwnS.nil _ _)⟩
 have h := ite_f hb21 h
 refine WC.skip ?_
 refine WQ.thenC ?_
 refine Sr ?_
 refine Pu (pt g2q 0) (PO.loadB 2 pl33 (hρ 2) rfl rfl) rfl ?_
 obtain ⟨⟨r23, r24, r25⟩, hr26, h⟩ := bnd h
 refine WL.f1 ?_
 refine WL.eff (EO.call1 co42 (f_wire_Reader_Row_ok a2q (7 : Int) (64 : Int) _ _ _ h2q_0 (r23, r24, r25) hr26) (args3 rfl rfl rfl)) rfl ?_
 rintro _ M27 _ hle28 ⟨_, ⟨vq29, cq29, rfl, rfl, hq29⟩, rfl⟩
 have h2q_0 := h2q_0.mono hle28
 refine WL.a2 ?_
 refine Pa vq29 rfl rfl ?_
 refine Nt ?_
 refine WC.ret ?_
 refine WQ.f1 ?_
 refine WQ.f3 ?_
 refine WQ.f2 ?_
 refine WQ.f3 ?_
 exact WQ.returnsF h [[(g1, .cells #[(.int .i64 a1)] 3 (0, 0))], [(g2q, .cells #[v2q_0, (.int .i64 r24), (GV r25)] 63 (0, 0))], [(g2, .cells #[(pt g2q 0)] 33 (0, 0))], cq29] rfl (results1 rfl rfl) hle28 ⟨vq29, cq29, rfl, rfl, hq29⟩

noncomputable def f_api_Fault_Unwrap (a0 : T_api_Fault) : Option GErr :=
  (some a0.Err)
def f_api_Fault_Unwrap_post (a0 : T_api_Fault) : GErr → Value → IM → HL → Prop :=
  fun (r0 : GErr) (v : Value) (M' : IM) (H' : HL) => (GV r0) = v ∧ H' = []
theorem f_api_Fault_Unwrap_ok (a0 : T_api_Fault) (M : IM) (res : GErr) (h : f_api_Fault_Unwrap a0 = some res) :
    Tri Tryd.prog 107 #[(a103_ a0)] M [] (f_api_Fault_Unwrap_post a0 res) := by
 unfold f_api_Fault_Unwrap at h
 refine Tri.enter (fn := Tryd.f107) Tryd.func107 rfl (Nat.le_of_ble_eq_true rfl) ?_
 intro F ρ hρ
 refine Sr ?_
 refine WL.eff (EO.box (cs := (l103 a0).toArray) (congrArg Value.cells (asE (a103_ a0) (hρ 0)))) rfl ?_
 rintro _ _ _ - ⟨rfl, g21, rfl, rfl⟩
 refine Pa (GV GErr.nil) rfl rfl ?_
 refine Ns ?_
 refine Pu (pt g21 2) (PO.fieldAddr fo103_2 rfl rfl) rfl ?_
 refine Pu (GV a0.Err) (PO.loadB 0 pl30 rfl rfl rfl) rfl ?_
 refine Pa (GV a0.Err) rfl rfl ?_
 refine Nt ?_
 refine WC.ret ?_
 refine WQ.drop ?_
 exact WQ.returnsF h [] rfl (results1 rfl rfl) (IM.le.refl _) ⟨rfl, rfl⟩

noncomputable def f_errors_as_code_l0 (a1 : Int) (s_ : GErr) : Option (GErr ⊕ (Bool × Int)) :=
  match s_ with
  | x23 =>
    (match x23 with | .nil => none | .code n26 => (some (Sum.inr (true, n26))) | .fault o27 a28 e29 => ((f_api_Fault_Unwrap (⟨o27, a28, e29⟩ : T_api_Fault)).bind fun (r32 : GErr) => (if r32.isNil = true then (some (Sum.inr (false, a1))) else (some (Sum.inl r32)))) | .other b30 => (some (Sum.inr (false, a1))))
noncomputable def f_errors_as_code (a0 : GErr) (a1 : Int) : Option (Bool × Int) :=
  ((iter (f_errors_as_code_l0 a1) a0).bind (fun (x24, x25) => (some (x24, x25))))
def f_errors_as_code_post (a0 : GErr) (a1 : Int) (g1 g2 : Nat) : (Bool × Int) → Value → IM → HL → Prop :=
  fun (p_ : (Bool × Int)) (v : Value) (M' : IM) (H' : HL) => match p_ with | (r0, r1) => (.bool r0) = v ∧ H' = [[(g1, .cells #[(.int .i64 r1)] 38 (0, 0))], [(g2, .cells #[(.pointer (some ⟨g1, 0, none⟩))] 97 (0, 0))]]
theorem f_errors_as_code_ok (a0 : GErr) (a1 : Int) (M : IM) (g1 g2 : Nat) (res : (Bool × Int)) (h : f_errors_as_code a0 a1 = some res) :
    Tri Tryd.prog 83 #[(GV a0), (.iface 97 (pt g1 0)), (.agg #[(pt 1 97), (pt g2 0), (.int .u64 150)]), (.iface 121 (.agg #[.pointer (some ⟨1, 38, none⟩)]))] M [[(g1, .cells #[(.int .i64 a1)] 38 (0, 0))], [(g2, .cells #[(pt g1 0)] 97 (0, 0))]] (f_errors_as_code_post a0 a1 g1 g2 res) := by
 unfold f_errors_as_code at h
 refine Tri.enter (fn := Tryd.f83) Tryd.func83 rfl (Nat.le_of_ble_eq_true rfl) ?_
 intro F ρ hρ
 refine Sr ?_
 refine WL.eff (EO.box (cs := #[(pt 1 97), (pt g2 0), (.int .u64 150)]) (congrArg Value.cells (asE (.agg #[(pt 1 97), (pt g2 0), (.int .u64 150)]) (hρ 2)))) rfl ?_
 rintro _ _ _ - ⟨rfl, g21, rfl, rfl⟩
 refine Pa (.bool false) rfl rfl ?_
 refine Nt ?_
 refine WC.block ?_
 obtain ⟨e22, he22, hK22⟩ := bnd h
 clear h
 refine WC.loop he22 (fun (x23 : GErr) ρ' M' H' => M.le M' ∧ [(g21, .cells #[(pt 1 97), (pt g2 0), (.int .u64 150)] 113 (0, 0))] :: [(g1, .cells #[(.int .i64 a1)] 38 (0, 0))] :: [(g2, .cells #[(pt g1 0)] 97 (0, 0))] :: F = H' ∧ ρ' 0 = (GV x23) ∧ ρ' 1 = (.iface 97 (pt g1 0)) ∧ ρ' 3 = (.iface 121 (.agg #[.pointer (some ⟨1, 38, none⟩)])) ∧ ρ' 6 = (pt g21 0)) ?_ ?_
 exact ⟨(IM.le.refl _), rfl, (hρ 0), (hρ 1), (hρ 3), rfl⟩
 rintro x23 o22 ρ22 M22 H22 h ⟨hle22, rfl, hs22_0, hs22_1, hs22_3, hs22_6⟩
 unfold f_errors_as_code_l0 at h
 refine WC.block ?_
 refine WC.seq ?_
 refine Sr ?_
 refine Pm (GV x23) hs22_0 rfl ?_
 rcases x23 with _ | n26 | ⟨o27, a28, e29⟩ | b30
 refine WL.eff (EO.extP xt71 (args1 (show ev _ _ = .nilIface from rfl)) tyNil) rfl ?_
 rintro _ _ _ - ⟨rfl, rfl, rfl⟩
 refine Pm (.iface 121 (.agg #[.pointer (some ⟨1, 38, none⟩)])) hs22_3 rfl ?_
 exact nones h
 refine WL.eff (EO.extP xt71 (args1 (show ev _ _ = (.iface 38 (.int .i64 n26)) from rfl)) (ty38 _)) rfl ?_
 rintro _ _ _ - ⟨rfl, rfl, rfl⟩
 refine Pm (.iface 121 (.agg #[.pointer (some ⟨1, 38, none⟩)])) hs22_3 rfl ?_
 refine WL.eff (EO.invE (show ev _ _ = (.iface 121 (.agg #[.pointer (some ⟨1, 38, none⟩)])) from rfl) (mm_AssignableTo (pt 1 38)) xt112 (inv1 rfl) mr_AssignableTo_38_38) rfl ?_
 rintro _ _ _ - ⟨rfl, rfl, rfl⟩
 refine Nt ?_
 refine WC.condT (b := true) rfl rfl ?_
 refine Sr ?_
 refine Pu (.agg #[(pt 1 97), (pt g2 0), (.int .u64 150)]) (PO.loadBA (cs := [(pt 1 97), (pt g2 0), (.int .u64 150)]) 0 ag113 sz113 hs22_6 rfl rfl) rfl ?_
 refine WL.eff (EO.rvElem (r := fun p => .agg #[(pt 1 38), .pointer (some p), .int .u64 386]) 2 xt85 pp97_150 rfl pl97 el97 mk38 (args1 (show ev _ _ = (.agg #[(pt 1 97), (pt g2 0), (.int .u64 150)]) from rfl)) rfl) rfl ?_
 rintro _ _ _ - ⟨rfl, rfl, rfl⟩
 refine Pm (GV (GErr.code n26)) hs22_0 rfl ?_
 refine WL.eff (EO.valueOf xt80 (args1 (show ev _ _ = (.iface 38 (.int .i64 n26)) from rfl)) (vo38 n26)) rfl ?_
 rintro _ _ _ - ⟨rfl, g31, rfl, rfl⟩
 refine WL.f2 ?_
 refine WL.eff (EO.rvSet (arr := [(.int .i64 a1)]) (vl := [(.int .i64 n26)]) (v := (.int .i64 n26)) xt86 pp38_386 pp38_130 rfl da38 (args2 (show ev _ _ = (.agg #[(pt 1 38), (pt g1 0), (.int .u64 386)]) from rfl) (show ev _ _ = (.agg #[(pt 1 38), (pt g31 0), (.int .u64 130)]) from rfl)) (fun _ hs => run_loadPlain pl38 (hs.cellC 1 rfl (chunkCell_lit.trans rfl))) rfl sz38 rfl (onesOf (Ones.cons rfl Ones.nil))) rfl ?_
 rintro _ _ _ - ⟨rfl, rfl, rfl⟩
 refine Ns ?_
 refine Pa (.bool true) rfl rfl ?_
 refine Nt ?_
 refine WC.ret ?_
 refine WQ.thenR ?_
 refine WQ.blockR ?_
 refine WQ.leaveR (true, n26) (Option.some.inj h).symm (fun heq22 => ?_)
 subst heq22
 have h := hK22
 refine WQ.blockR ?_
 refine WQ.f1 ?_
 refine WQ.drop ?_
 refine WQ.f1 ?_
 refine WQ.drop ?_
 exact WQ.returnsF h [[(g1, .cells #[(.int .i64 n26)] 38 (0, 0))], [(g2, .cells #[(pt g1 0)] 97 (0, 0))]] rfl (results1 rfl rfl) hle22 ⟨rfl, rfl⟩
 refine WL.eff (EO.extP xt71 (args1 (show ev _ _ = (.iface 103 (.agg #[.string o27, .int .i64 a28, GV e29])) from rfl)) (ty103 _)) rfl ?_
 rintro _ _ _ - ⟨rfl, rfl, rfl⟩
 refine Pm (.iface 121 (.agg #[.pointer (some ⟨1, 38, none⟩)])) hs22_3 rfl ?_
 refine WL.eff (EO.invE (show ev _ _ = (.iface 121 (.agg #[.pointer (some ⟨1, 103, none⟩)])) from rfl) (mm_AssignableTo (pt 1 103)) xt112 (inv1 rfl) mr_AssignableTo_103_38) rfl ?_
 rintro _ _ _ - ⟨rfl, rfl, rfl⟩
 refine Nt ?_
 refine WC.condF (b := false) rfl rfl ?_
 refine WC.skip ?_
 refine WQ.thenC ?_
 refine WC.seq ?_
 refine Sr ?_
 refine Pm (GV (GErr.fault o27 a28 e29)) hs22_0 rfl ?_
 refine Pu (.tuple #[.nilIface, (.bool false)]) (PO.asserts (show ev _ _ = (.iface 103 (.agg #[.string o27, .int .i64 a28, GV e29])) from rfl) (la103_133 _ _)) rfl ?_
 refine Pm (.tuple #[.nilIface, (.bool false)]) rfl rfl ?_
 refine Pu .nilIface (PO.extract rfl rfl) rfl ?_
 refine Pu (.bool false) (PO.extract rfl rfl) rfl ?_
 refine Pa .nilIface rfl rfl ?_
 refine Pa (.bool false) rfl rfl ?_
 refine Ns ?_
 refine Pm (.bool false) rfl rfl ?_
 refine Pm (.bool false) rfl rfl ?_
 iterate 3 refine Of 31 rfl rfl rfl rfl ?_
 refine Pu (.bool false) (PO.pickF rfl rfl rfl) rfl ?_
 refine Nt ?_
 refine WC.condF (b := false) rfl rfl ?_
 refine WC.skip ?_
 refine WQ.thenC ?_
 refine Sr ?_
 refine Pm (GV (GErr.fault o27 a28 e29)) hs22_0 rfl ?_
 refine Nt ?_
 refine WC.block ?_
 refine Sr ?_
 refine Pu (.tuple #[(GV (GErr.fault o27 a28 e29)), (.bool true)]) (PO.asserts (show ev _ _ = (.iface 103 (.agg #[.string o27, .int .i64 a28, GV e29])) from rfl) (ha103_126 _ _)) rfl ?_
 refine Pu (.bool true) (PO.extract rfl rfl) rfl ?_
 refine Pu (GV (GErr.fault o27 a28 e29)) (PO.extract rfl rfl) rfl ?_
 refine Nt ?_
 refine WC.condT (b := true) rfl rfl ?_
 refine Sr ?_
 refine Pa (GV (GErr.fault o27 a28 e29)) rfl rfl ?_
 refine Ns ?_
 refine Pm (GV (GErr.fault o27 a28 e29)) rfl rfl ?_
 obtain ⟨r32, hr33, h⟩ := bnd h
 refine WL.eff (EO.invT (show ev _ _ = (.iface 103 (.agg #[.string o27, .int .i64 a28, GV e29])) from rfl) (me103_Unwrap _) co107 inv0 (f_api_Fault_Unwrap_ok (⟨o27, a28, e29⟩ : T_api_Fault) _ r32 hr33)) rfl ?_
 rintro _ M34 _ hle35 ⟨_, ⟨rfl, rfl⟩, rfl⟩
 refine WL.a0 ?_
 refine Pa (GV r32) rfl rfl ?_
 refine Ns ?_
 refine Pm (GV r32) rfl rfl ?_
 refine Pu (.bool r32.isNil) (PO.errNil Tryd.underlying30 rfl) rfl ?_
 refine Nt ?_
 refine WC.cond (b := r32.isNil) rfl (fun hb37 => ?_) (fun hb37 => ?_)
 have h := ite_t hb37 h
 refine Sr ?_
 refine Pa (.bool false) rfl rfl ?_
 refine Nt ?_
 refine WC.ret ?_
 refine WQ.blockR ?_
 refine WQ.blockR ?_
 refine WQ.leaveR (false, a1) (Option.some.inj h).symm (fun heq22 => ?_)
 subst heq22
 have h := hK22
 refine WQ.blockR ?_
 refine WQ.drop ?_
 exact WQ.returnsF h [[(g1, .cells #[(.int .i64 a1)] 38 (0, 0))], [(g2, .cells #[(pt g1 0)] 97 (0, 0))]] rfl (results1 rfl rfl) (hle22.trans hle35) ⟨rfl, rfl⟩
 have h := ite_f hb37 h
 refine WC.skip ?_
 refine WQ.blockN ?_
 refine WQ.blockN ?_
 refine WQ.again r32 (Option.some.inj h).symm ?_
 exact ⟨(hle22.trans hle35), rfl, rfl, hs22_1, hs22_3, hs22_6⟩
 refine WL.eff (EO.extP xt71 (args1 (show ev _ _ = (.iface 0 (.pointer (some b30))) from rfl)) (ty0 _)) rfl ?_
 rintro _ _ _ - ⟨rfl, rfl, rfl⟩
 refine Pm (.iface 121 (.agg #[.pointer (some ⟨1, 38, none⟩)])) hs22_3 rfl ?_
 refine WL.eff (EO.invE (show ev _ _ = (.iface 121 (.agg #[.pointer (some ⟨1, 0, none⟩)])) from rfl) (mm_AssignableTo (pt 1 0)) xt112 (inv1 rfl) mr_AssignableTo_0_38) rfl ?_
 rintro _ _ _ - ⟨rfl, rfl, rfl⟩
 refine Nt ?_
 refine WC.condF (b := false) rfl rfl ?_
 refine WC.skip ?_
 refine WQ.thenC ?_
 refine WC.seq ?_
 refine Sr ?_
 refine Pm (GV (GErr.other b30)) hs22_0 rfl ?_
 refine Pu (.tuple #[.nilIface, (.bool false)]) (PO.asserts (show ev _ _ = (.iface 0 (.pointer (some b30))) from rfl) (la0_133 _ _)) rfl ?_
 refine Pm (.tuple #[.nilIface, (.bool false)]) rfl rfl ?_
 refine Pu .nilIface (PO.extract rfl rfl) rfl ?_
 refine Pu (.bool false) (PO.extract rfl rfl) rfl ?_
 refine Pa .nilIface rfl rfl ?_
 refine Pa (.bool false) rfl rfl ?_
 refine Ns ?_
 refine Pm (.bool false) rfl rfl ?_
 refine Pm (.bool false) rfl rfl ?_
 iterate 3 refine Of 31 rfl rfl rfl rfl ?_
 refine Pu (.bool false) (PO.pickF rfl rfl rfl) rfl ?_
 refine Nt ?_
 refine WC.condF (b := false) rfl rfl ?_
 refine WC.skip ?_
 refine WQ.thenC ?_
 refine Sr ?_
 refine Pm (GV (GErr.other b30)) hs22_0 rfl ?_
 refine Nt ?_
 refine WC.block ?_
 refine Sr ?_
 refine Pu (.tuple #[.nilIface, (.bool false)]) (PO.asserts (show ev _ _ = (.iface 0 (.pointer (some b30))) from rfl) (la0_126 _ _)) rfl ?_
 refine Pu (.bool false) (PO.extract rfl rfl) rfl ?_
 refine Pu .nilIface (PO.extract rfl rfl) rfl ?_
 refine Nt ?_
 refine WC.condF (b := false) rfl rfl ?_
 refine Sr ?_
 refine Pu (.tuple #[.nilIface, (.bool false)]) (PO.asserts (show ev _ _ = (.iface 0 (.pointer (some b30))) from rfl) (la0_127 _ _)) rfl ?_
 refine Pu (.bool false) (PO.extract rfl rfl) rfl ?_
 refine Pu .nilIface (PO.extract rfl rfl) rfl ?_
 refine Nt ?_
 refine WC.condF (b := false) rfl rfl ?_
 refine Sr ?_
 refine Pa (GV (GErr.other b30)) rfl rfl ?_
 refine Ns ?_
 refine Pa (.bool false) rfl rfl ?_
 refine Nt ?_
 refine WC.ret ?_
 refine WQ.blockR ?_
 refine WQ.blockR ?_
 refine WQ.leaveR (false, a1) (Option.some.inj h).symm (fun heq22 => ?_)
 subst heq22
 have h := hK22
 refine WQ.blockR ?_
 refine WQ.drop ?_
 exact WQ.returnsF h [[(g1, .cells #[(.int .i64 a1)] 38 (0, 0))], [(g2, .cells #[(pt g1 0)] 97 (0, 0))]] rfl (results1 rfl rfl) hle22 ⟨rfl, rfl⟩


end Go.Proofs.YtafkdjljkolehaaDoor.G
