/- Go functions: what they come to, and that they do. Printed by a program of the session (gen). -/
import Derived.Test.YtdlilclopmhiaaaDoorWF
import Derived.Test.YtdlilclopmhiaaaDoorW1
set_option linter.unusedVariables false
set_option linter.unusedSimpArgs false
namespace Go.Proofs.YtdlilclopmhiaaaDoor.G
open Go Go.KK

noncomputable def f_wire_Reader_Row_l0 (a0 : T_wire_Reader) (a2 : Int) (r21 : Int) (s_ : ((List Int) × Int × Int × GErr)) : Option (((List Int) × Int × Int × GErr) ⊕ ((List Int) × Int × GErr)) :=
  match s_ with
  | (x33, x34, x35, x36) =>
    (((if (decide (x34 < r21)) = true then (some x36.isNil) else (some false)) : Option Bool).bind fun (x40 : Bool) => (if x40 = true then ((f_wire_Reader_Int (⟨a0.b, x35, x36⟩ : T_wire_Reader) a2).bind fun (r44, r45, r46) => (grd (x33.length + [r44].length ≤ 274877906944) (some (Sum.inl (x33 ++ [r44], IntKind.i64.wrap (x34 + (1 : Int)), r45, r46))))) else (some (Sum.inr (x33, x35, x36)))))
noncomputable def f_wire_Reader_Row (a0 : T_wire_Reader) (a1 : Int) (a2 : Int) : Option ((List Int) × Int × GErr) :=
  ((f_wire_Reader_Int a0 a1).bind fun (r21, r22, r23) => ((((iter (f_wire_Reader_Row_l0 a0 a2 r21) ([], (0 : Int), r22, r23)).bind (fun (x37, x38, x39) => (some (x37, x38, x39)))) : Option ((List Int) × Int × GErr)).bind fun (x28, x29, x30) => (if (!x30.isNil) = true then (some ([], x29, x30)) else (some (x28, x29, x30)))))
def f_wire_Reader_Row_post (a0 : T_wire_Reader) (a1 : Int) (a2 : Int) (v0_0 : Value) (g0 : Nat) : ((List Int) × Int × GErr) → Value → IM → HL → Prop :=
  fun (p_ : ((List Int) × Int × GErr)) (v : Value) (M' : IM) (H' : HL) => match p_ with | (r0, r1, r2) => ∃ vz0 cz0, vz0 = v ∧ H' = [[(g0, .cells #[v0_0, (.int .i64 r1), (GV r2)] 73 (0, 0))], cz0] ∧ OwnS (Kd.int .i64) M' vz0 r0 cz0
set_option maxHeartbeats 8000000 in
set_option maxRecDepth 100000 in
theorem f_wire_Reader_Row_ok (a0 : T_wire_Reader) (a1 : Int) (a2 : Int) (M : IM) (v0_0 : Value) (g0 : Nat) (h0_0 : RS (Kd.int .u8) M v0_0 a0.b) (res : ((List Int) × Int × GErr)) (h : f_wire_Reader_Row a0 a1 a2 = some res) :
    Tri Tryd.prog 26 #[(.pointer (some ⟨g0, 0, none⟩)), (.int .i64 a1), (.int .i64 a2)] M [[(g0, .cells #[v0_0, (.int .i64 a0.at_), (GV a0.err)] 73 (0, 0))]] (f_wire_Reader_Row_post a0 a1 a2 v0_0 g0 res) := by
 unfold f_wire_Reader_Row at h
 refine Tri.enter (fn := Tryd.f26) Tryd.func26 rfl (Nat.le_of_ble_eq_true rfl) ?_
 intro F ρ hρ
 refine Sr ?_
 refine Pa (.slice none 0 0) rfl rfl ?_
 refine Ns ?_
 refine Pm (.pointer (some ⟨g0, 0, none⟩)) (hρ 0) rfl ?_
 refine Pm (.int .i64 a1) (hρ 1) rfl ?_
 obtain ⟨⟨r21, r22, r23⟩, hr24, h⟩ := bnd h
 refine WL.eff (EO.call1 co22 (f_wire_Reader_Int_ok a0 a1 _ _ _ h0_0 (r21, r22, r23) hr24) (args2 rfl rfl)) rfl ?_
 rintro _ M25 _ hle26 ⟨_, ⟨rfl, rfl⟩, rfl⟩
 have h0_0 := h0_0.mono hle26
 refine WL.a1 ?_
 refine Pa (.int .i64 r21) rfl rfl ?_
 refine Ns ?_
 refine Pa (.slice none 0 0) rfl rfl ?_
 refine Nt ?_
 obtain ⟨j31, hj31, h⟩ := bnd h
 refine WC.joinF (fun (p_ : ((List Int) × Int × GErr)) ρ' M' H' => match p_ with | (x28, x29, x30) => ∃ vx28 cx28, M25.le M' ∧ [(g0, .cells #[v0_0, (.int .i64 x29), (GV x30)] 73 (0, 0))] :: cx28 :: F = H' ∧ ρ' 0 = (.pointer (some ⟨g0, 0, none⟩)) ∧ ρ' 8 = vx28 ∧ OwnS (Kd.int .i64) M' vx28 x28 cx28) j31 ?_ ?_
 have h331 := h
 have h := hj31
 refine Sr ?_
 refine Pa (.int .i64 (0 : Int)) rfl rfl ?_
 refine Nt ?_
 refine WC.block ?_
 refine WC.e0 ?_
 refine WC.f1 ?_
 obtain ⟨e32, he32, hK32⟩ := bnd h
 clear h
 refine WC.loop he32 (fun (p_ : ((List Int) × Int × Int × GErr)) ρ' M' H' => match p_ with | (x33, x34, x35, x36) => ∃ vx33 cx33, M25.le M' ∧ [(g0, .cells #[v0_0, (.int .i64 x35), (GV x36)] 73 (0, 0))] :: cx33 :: F = H' ∧ ρ' 0 = (.pointer (some ⟨g0, 0, none⟩)) ∧ ρ' 2 = (.int .i64 a2) ∧ ρ' 7 = (.int .i64 r21) ∧ ρ' 8 = vx33 ∧ ρ' 9 = (.int .i64 x34) ∧ OwnS (Kd.int .i64) M' vx33 x33 cx33) ?_ ?_
 exact ⟨(.slice none 0 0), [], (IM.le.refl _), rfl, (hρ 0), (hρ 2), rfl, rfl, rfl, (OwnS.nil _ _)⟩
 rintro ⟨x33, x34, x35, x36⟩ o32 ρ32 M32 H32 h ⟨vx33, cx33, hle32, rfl, hs32_0, hs32_2, hs32_7, hs32_8, hs32_9, hx33⟩
 unfold f_wire_Reader_Row_l0 at h
 have h0_0 := h0_0.mono hle32
 refine WC.seq ?_
 obtain ⟨x40, hj41, h⟩ := bnd h
 refine WC.joinF (fun (x40 : Bool) ρ' M' H' => M32.le M' ∧ [(g0, .cells #[v0_0, (.int .i64 x35), (GV x36)] 73 (0, 0))] :: cx33 :: F = H' ∧ ρ' 0 = (.pointer (some ⟨g0, 0, none⟩)) ∧ ρ' 2 = (.int .i64 a2) ∧ ρ' 7 = (.int .i64 r21) ∧ ρ' 8 = vx33 ∧ ρ' 9 = (.int .i64 x34) ∧ ρ' 22 = (.bool x40)) x40 ?_ ?_
 have h341 := h
 have h := hj41
 refine WC.region ?_
 refine Pm (.int .i64 x34) hs32_9 rfl ?_
 refine Pm (.int .i64 r21) hs32_7 rfl ?_
 refine Pu (.bool (decide (x34 < r21))) (PO.lss rfl rfl) rfl ?_
 refine Pm (.bool (decide (x34 < r21))) rfl rfl ?_
 rcases Bool.eq_false_or_eq_true (decide (x34 < r21)) with hb42 | hb42
 have h := ite_t hb42 h
 refine On 16 rfl rfl hb42 ?_
 refine Pm (.pointer (some ⟨g0, 0, none⟩)) hs32_0 rfl ?_
 refine On 16 rfl rfl hb42 ?_
 refine Pu (.pointer (some ⟨g0, 0, none⟩)) (PO.nilCheck rfl) rfl ?_
 refine On 16 rfl rfl hb42 ?_
 refine Pu (.pointer (some ⟨g0, 2, none⟩)) (PO.fieldAddr fo73_2 rfl rfl) rfl ?_
 refine On 16 rfl rfl hb42 ?_
 refine Pu (GV x36) (PO.loadB 0 pl45 rfl rfl rfl) rfl ?_
 refine On 16 rfl rfl hb42 ?_
 refine Pu (.bool x36.isNil) (PO.errNil Tryd.underlying45 rfl) rfl ?_
 refine Pu (.bool x36.isNil) (PO.pickT rfl hb42 rfl) rfl ?_
 refine WL.nil ?_
 obtain rfl := Option.some.inj h
 refine WQ.thenJ ?_
 exact ⟨(IM.le.refl _), rfl, hs32_0, hs32_2, hs32_7, hs32_8, hs32_9, rfl⟩
 have h := ite_f hb42 h
 iterate 5 refine Of 16 rfl rfl hb42 rfl ?_
 refine Pu (.bool false) (PO.pickF rfl hb42 rfl) rfl ?_
 refine WL.nil ?_
 obtain rfl := Option.some.inj h
 refine WQ.thenJ ?_
 exact ⟨(IM.le.refl _), rfl, hs32_0, hs32_2, hs32_7, hs32_8, hs32_9, rfl⟩
 rintro ρ41 M41 H41 ⟨hle41, rfl, hs41_0, hs41_2, hs41_7, hs41_8, hs41_9, hs41_22⟩
 have hx33 := hx33.mono hle41
 have h0_0 := h0_0.mono hle41
 refine WC.cond (b := x40) hs41_22 (fun hb43 => ?_) (fun hb43 => ?_)
 have h := ite_t hb43 h
 refine WC.skip ?_
 refine WQ.thenC ?_
 refine WC.seq ?_
 refine WC.block ?_
 refine WC.region ?_
 refine Pm vx33 hs41_8 rfl ?_
 refine Pm (.pointer (some ⟨g0, 0, none⟩)) hs41_0 rfl ?_
 refine Pm (.int .i64 a2) hs41_2 rfl ?_
 obtain ⟨⟨r44, r45, r46⟩, hr47, h⟩ := bnd h
 refine WL.eff (EO.call1 co22 (f_wire_Reader_Int_ok (⟨a0.b, x35, x36⟩ : T_wire_Reader) a2 _ _ _ h0_0 (r44, r45, r46) hr47) (args2 rfl rfl)) rfl ?_
 rintro _ M48 _ hle49 ⟨_, ⟨rfl, rfl⟩, rfl⟩
 have hx33 := hx33.mono hle49
 have h0_0 := h0_0.mono hle49
 refine WL.a1 ?_
 refine WL.eff (EO.buildSliceL (cl := [(.int .i64 r44)]) Tryd.underlying24 iz3 rfl (Parts.cons (congrArg Value.cells (show ev _ _ = (.int .i64 r44) from rfl)) Parts.nil) rfl) rfl ?_
 rintro _ _ _ - ⟨rfl, g51, rfl, rfl⟩
 have h53 : OwnS (Kd.int .i64) M48 (.slice (some ⟨g51, 0, none⟩) 1 1) [r44] [(g51, .cells #[(.int .i64 r44)] 3 (0, 0))] := OwnS.rows (css := [[(.int .i64 r44)]]) (Rows.cons rfl Rows.nil) rfl rfl
 obtain ⟨hg57, h⟩ := grd_i h
 refine WL.f2 ?_
 refine WL.eff (EO.append (dd := (Kd.int .i64)) (xs := x33) (ys := [r44]) Tryd.underlying24 Tryd.underlying24 in3 rfl (appB (by decide) hg57) (by decide) rfl rfl hx33 (h53.src 1 rfl)) rfl ?_
 rintro v56 _ _ - ⟨rfl, c54, rfl, h55⟩
 refine Pa v56 rfl rfl ?_
 refine WL.nil ?_
 refine WQ.blockN ?_
 refine WQ.thenC ?_
 refine WC.region ?_
 refine Pm (.int .i64 x34) hs41_9 rfl ?_
 refine Pu (.int .i64 (IntKind.i64.wrap (x34 + (1 : Int)))) (PO.add rfl rfl) rfl ?_
 refine Pa (.int .i64 (IntKind.i64.wrap (x34 + (1 : Int)))) rfl rfl ?_
 refine WL.nil ?_
 refine WQ.f1 ?_
 refine WQ.drop ?_
 refine WQ.f1 ?_
 refine WQ.again (x33 ++ [r44], IntKind.i64.wrap (x34 + (1 : Int)), r45, r46) (Option.some.inj h).symm ?_
 exact ⟨v56, c54, ((hle32.trans hle41).trans hle49), rfl, hs41_0, hs41_2, hs41_7, rfl, rfl, h55⟩
 have h := ite_f hb43 h
 refine WC.exit ?_
 refine WQ.thenE ?_
 refine WQ.leaveE (x33, x35, x36) (Option.some.inj h).symm (fun heq32 => ?_)
 subst heq32
 have h := hK32
 refine WQ.blockH ?_
 obtain rfl := Option.some.inj h
 refine WQ.thenJ ?_
 exact ⟨vx33, cx33, (hle32.trans hle41), rfl, hs41_0, hs41_8, hx33⟩
 obtain ⟨x28, x29, x30⟩ := j31
 rintro ρ31 M31 H31 ⟨vx28, cx28, hle31, rfl, hs31_0, hs31_8, hx28⟩
 have h0_0 := h0_0.mono hle31
 refine WC.seq ?_
 refine Sr ?_
 refine Pm (.pointer (some ⟨g0, 0, none⟩)) hs31_0 rfl ?_
 refine Pu (.pointer (some ⟨g0, 0, none⟩)) (PO.nilCheck rfl) rfl ?_
 refine Pu (.pointer (some ⟨g0, 2, none⟩)) (PO.fieldAddr fo73_2 rfl rfl) rfl ?_
 refine Pu (GV x30) (PO.loadB 0 pl45 rfl rfl rfl) rfl ?_
 refine Pu (.bool (!x30.isNil)) (PO.errNotNil Tryd.underlying45 rfl) rfl ?_
 refine Nt ?_
 refine WC.cond (b := !x30.isNil) rfl (fun hb59 => ?_) (fun hb59 => ?_)
 have h := ite_t hb59 h
 refine Sr ?_
 refine Pa (.slice none 0 0) rfl rfl ?_
 refine Nt ?_
 refine WC.ret ?_
 refine WQ.thenR ?_
 refine WQ.e0 ?_
 refine WQ.f2 ?_
 refine WQ.drop ?_
 refine WQ.f1 ?_
 exact WQ.returnsF h [[(g0, .cells #[v0_0, (.int .i64 x29), (GV x30)] 73 (0, 0))], []] rfl (results1 rfl rfl) (hle26.trans hle31) ⟨(.slice none 0 0), [], rfl, rfl, (OwnS.nil _ _)⟩
 have h := ite_f hb59 h
 refine WC.skip ?_
 refine WQ.thenC ?_
 refine Sr ?_
 refine Pm vx28 hs31_8 rfl ?_
 refine Pa vx28 rfl rfl ?_
 refine Nt ?_
 refine WC.ret ?_
 exact WQ.returnsF h [[(g0, .cells #[v0_0, (.int .i64 x29), (GV x30)] 73 (0, 0))], cx28] rfl (results1 rfl rfl) (hle26.trans hle31) ⟨vx28, cx28, rfl, rfl, hx28⟩

noncomputable def f_wire_Reader_End (a0 : T_wire_Reader) : Option (GErr × GErr) :=
  (((if (decide (a0.at_ < (a0.b.length : Int))) = true then ((f_wire_Reader_fail a0 (⟨#[101, 110, 100]⟩ : ByteArray) a0.at_ (5 : Int)).bind fun (r24 : GErr) => (some r24)) else (some a0.err)) : Option GErr).bind fun (x21 : GErr) => (some (x21, x21)))
def f_wire_Reader_End_post (a0 : T_wire_Reader) (v0_0 : Value) (g0 : Nat) : (GErr × GErr) → Value → IM → HL → Prop :=
  fun (p_ : (GErr × GErr)) (v : Value) (M' : IM) (H' : HL) => match p_ with | (r0, r1) => (GV r0) = v ∧ H' = [[(g0, .cells #[v0_0, (.int .i64 a0.at_), (GV r1)] 73 (0, 0))]]
set_option maxHeartbeats 8000000 in
set_option maxRecDepth 100000 in
theorem f_wire_Reader_End_ok (a0 : T_wire_Reader) (M : IM) (v0_0 : Value) (g0 : Nat) (h0_0 : RS (Kd.int .u8) M v0_0 a0.b) (res : (GErr × GErr)) (h : f_wire_Reader_End a0 = some res) :
    Tri Tryd.prog 27 #[(.pointer (some ⟨g0, 0, none⟩))] M [[(g0, .cells #[v0_0, (.int .i64 a0.at_), (GV a0.err)] 73 (0, 0))]] (f_wire_Reader_End_post a0 v0_0 g0 res) := by
 unfold f_wire_Reader_End at h
 refine Tri.enter (fn := Tryd.f27) Tryd.func27 rfl (Nat.le_of_ble_eq_true rfl) ?_
 intro F ρ hρ
 refine Sr ?_
 refine Pa (GV GErr.nil) rfl rfl ?_
 refine Nt ?_
 obtain ⟨x21, hj22, h⟩ := bnd h
 refine WC.joinF (fun (x21 : GErr) ρ' M' H' => M.le M' ∧ [(g0, .cells #[v0_0, (.int .i64 a0.at_), (GV x21)] 73 (0, 0))] :: F = H' ∧ ρ' 0 = (.pointer (some ⟨g0, 0, none⟩))) x21 ?_ ?_
 have h322 := h
 have h := hj22
 refine WC.seq ?_
 refine WC.draw [0, 1, 3, 7, 0, 16, 48, 112, 240, 511] (.pure 0 (.pure 1 (.pure 2 (.pure 3 (.pure 4 (.pure 5 (.pure 6 (.pure 7 (.pure 8 (.pure 9 .done)))))))))) mixed (by kernel_rfl) ?_
 refine Tp (.pointer (some ⟨g0, 0, none⟩)) rfl (PO.move (hρ 0)) rfl ?_
 refine Tp (.pointer (some ⟨g0, 0, none⟩)) rfl (PO.nilCheck rfl) rfl ?_
 refine Tp (.pointer (some ⟨g0, 1, none⟩)) rfl (PO.fieldAddr fo73_1 rfl rfl) rfl ?_
 refine Tp (.int .i64 a0.at_) rfl (PO.loadB 0 pl3 rfl rfl rfl) rfl ?_
 refine Tp (.pointer (some ⟨g0, 0, none⟩)) rfl (PO.move (hρ 0)) rfl ?_
 refine Tp (.pointer (some ⟨g0, 0, none⟩)) rfl (PO.nilCheck rfl) rfl ?_
 refine Tp (.pointer (some ⟨g0, 0, none⟩)) rfl (PO.fieldAddr fo73_0 rfl rfl) rfl ?_
 refine Tp v0_0 rfl (PO.loadB 0 pl22 rfl rfl rfl) rfl ?_
 refine Tp (.int .i64 (a0.b.length : Int)) rfl (PO.lenS Tryd.underlying22 rfl h0_0.len) rfl ?_
 refine Tp (.bool (decide (a0.at_ < (a0.b.length : Int)))) rfl (PO.lss rfl rfl) rfl ?_
 refine WT.fin ?_
 refine WQ.thenC ?_
 refine WC.cond (b := decide (a0.at_ < (a0.b.length : Int))) rfl (fun hb23 => ?_) (fun hb23 => ?_)
 have h := ite_t hb23 h
 refine WC.region ?_
 refine Pm (.pointer (some ⟨g0, 0, none⟩)) (hρ 0) rfl ?_
 refine Pm (.pointer (some ⟨g0, 0, none⟩)) (hρ 0) rfl ?_
 refine Pu (.pointer (some ⟨g0, 0, none⟩)) (PO.nilCheck rfl) rfl ?_
 refine Pu (.pointer (some ⟨g0, 1, none⟩)) (PO.fieldAddr fo73_1 rfl rfl) rfl ?_
 refine Pu (.int .i64 a0.at_) (PO.loadB 0 pl3 rfl rfl rfl) rfl ?_
 obtain ⟨r24, hr25, h⟩ := bnd h
 refine WL.eff (EO.call1 co39 (f_wire_Reader_fail_ok a0 (⟨#[101, 110, 100]⟩ : ByteArray) a0.at_ (5 : Int) _ _ _ h0_0 r24 hr25) (args4 rfl rfl rfl rfl)) rfl ?_
 rintro _ M26 _ hle27 ⟨_, ⟨rfl, rfl⟩, rfl⟩
 have h0_0 := h0_0.mono hle27
 refine WL.a1 ?_
 refine WL.nil ?_
 obtain rfl := Option.some.inj h
 refine WQ.thenJ ?_
 exact ⟨hle27, rfl, (hρ 0)⟩
 have h := ite_f hb23 h
 refine WC.skip ?_
 obtain rfl := Option.some.inj h
 refine WQ.thenJ ?_
 exact ⟨(IM.le.refl _), rfl, (hρ 0)⟩
 rintro ρ22 M22 H22 ⟨hle22, rfl, hs22_0⟩
 have h0_0 := h0_0.mono hle22
 refine Sr ?_
 refine Pm (.pointer (some ⟨g0, 0, none⟩)) hs22_0 rfl ?_
 refine Pu (.pointer (some ⟨g0, 0, none⟩)) (PO.nilCheck rfl) rfl ?_
 refine Pu (.pointer (some ⟨g0, 2, none⟩)) (PO.fieldAddr fo73_2 rfl rfl) rfl ?_
 refine Pu (GV x21) (PO.loadB 0 pl45 rfl rfl rfl) rfl ?_
 refine Pa (GV x21) rfl rfl ?_
 refine Nt ?_
 refine WC.ret ?_
 exact WQ.returnsF h [[(g0, .cells #[v0_0, (.int .i64 a0.at_), (GV x21)] 73 (0, 0))]] rfl (results1 rfl rfl) hle22 ⟨rfl, rfl⟩

noncomputable def f_wire_Reader_Err (a0 : T_wire_Reader) : Option GErr :=
  (some a0.err)
def f_wire_Reader_Err_post (a0 : T_wire_Reader) (v0_0 : Value) (g0 : Nat) : GErr → Value → IM → HL → Prop :=
  fun (r0 : GErr) (v : Value) (M' : IM) (H' : HL) => (GV r0) = v ∧ H' = [[(g0, .cells #[v0_0, (.int .i64 a0.at_), (GV a0.err)] 73 (0, 0))]]
set_option maxHeartbeats 8000000 in
set_option maxRecDepth 100000 in
theorem f_wire_Reader_Err_ok (a0 : T_wire_Reader) (M : IM) (v0_0 : Value) (g0 : Nat) (h0_0 : RS (Kd.int .u8) M v0_0 a0.b) (res : GErr) (h : f_wire_Reader_Err a0 = some res) :
    Tri Tryd.prog 28 #[(.pointer (some ⟨g0, 0, none⟩))] M [[(g0, .cells #[v0_0, (.int .i64 a0.at_), (GV a0.err)] 73 (0, 0))]] (f_wire_Reader_Err_post a0 v0_0 g0 res) := by
 unfold f_wire_Reader_Err at h
 refine Tri.enter (fn := Tryd.f28) Tryd.func28 rfl (Nat.le_of_ble_eq_true rfl) ?_
 intro F ρ hρ
 refine Sr ?_
 refine Pa (GV GErr.nil) rfl rfl ?_
 refine Ns ?_
 refine Pm (.pointer (some ⟨g0, 0, none⟩)) (hρ 0) rfl ?_
 refine Pu (.pointer (some ⟨g0, 0, none⟩)) (PO.nilCheck rfl) rfl ?_
 refine Pu (.pointer (some ⟨g0, 2, none⟩)) (PO.fieldAddr fo73_2 rfl rfl) rfl ?_
 refine Pu (GV a0.err) (PO.loadB 0 pl45 rfl rfl rfl) rfl ?_
 refine Pa (GV a0.err) rfl rfl ?_
 refine Nt ?_
 refine WC.ret ?_
 exact WQ.returnsF h [[(g0, .cells #[v0_0, (.int .i64 a0.at_), (GV a0.err)] 73 (0, 0))]] rfl (results1 rfl rfl) (IM.le.refl _) ⟨rfl, rfl⟩

noncomputable def f_errors_as_fault_l0 (a1 : T_api_Fault) (s_ : GErr) : Option (GErr ⊕ (Bool × ByteArray × Int × GErr)) :=
  match s_ with
  | x23 =>
    (match x23 with | .nil => none | .code n28 => (some (Sum.inr (false, a1.Op, a1.At, a1.Err))) | .fault o29 a30 e31 => (some (Sum.inr (true, o29, a30, e31))) | .other b32 => (some (Sum.inr (false, a1.Op, a1.At, a1.Err))))
noncomputable def f_errors_as_fault (a0 : GErr) (a1 : T_api_Fault) : Option (Bool × ByteArray × Int × GErr) :=
  ((iter (f_errors_as_fault_l0 a1) a0).bind (fun (x24, x25, x26, x27) => (some (x24, x25, x26, x27))))
def f_errors_as_fault_post (a0 : GErr) (a1 : T_api_Fault) (g1 g2 : Nat) : (Bool × ByteArray × Int × GErr) → Value → IM → HL → Prop :=
  fun (p_ : (Bool × ByteArray × Int × GErr)) (v : Value) (M' : IM) (H' : HL) => match p_ with | (r0, r1, r2, r3) => (.bool r0) = v ∧ H' = [[(g1, .cells #[(.string r1), (.int .i64 r2), (GV r3)] 78 (0, 0))], [(g2, .cells #[(.pointer (some ⟨g1, 0, none⟩))] 79 (0, 0))]]
set_option maxHeartbeats 8000000 in
set_option maxRecDepth 100000 in
theorem f_errors_as_fault_ok (a0 : GErr) (a1 : T_api_Fault) (M : IM) (g1 g2 : Nat) (res : (Bool × ByteArray × Int × GErr)) (h : f_errors_as_fault a0 a1 = some res) :
    Tri Tryd.prog 54 #[(GV a0), (.iface 79 (.pointer (some ⟨g1, 0, none⟩))), (.agg #[(.pointer (some ⟨1, 79, none⟩)), (.pointer (some ⟨g2, 0, none⟩)), (.int .u64 (150 : Int))]), (.iface 108 (.agg #[.pointer (some ⟨1, 78, none⟩)]))] M [[(g1, .cells #[(.string a1.Op), (.int .i64 a1.At), (GV a1.Err)] 78 (0, 0))], [(g2, .cells #[(.pointer (some ⟨g1, 0, none⟩))] 79 (0, 0))]] (f_errors_as_fault_post a0 a1 g1 g2 res) := by
 unfold f_errors_as_fault at h
 refine Tri.enter (fn := Tryd.f54) Tryd.func54 rfl (Nat.le_of_ble_eq_true rfl) ?_
 intro F ρ hρ
 refine Sr ?_
 refine WL.eff (EO.box (cs := #[(.pointer (some ⟨1, 79, none⟩)), (.pointer (some ⟨g2, 0, none⟩)), (.int .u64 (150 : Int))]) (congrArg Value.cells (asE (.agg #[(.pointer (some ⟨1, 79, none⟩)), (.pointer (some ⟨g2, 0, none⟩)), (.int .u64 (150 : Int))]) (hρ 2)))) rfl ?_
 rintro _ _ _ - ⟨rfl, g21, rfl, rfl⟩
 refine Pa (.bool false) rfl rfl ?_
 refine Nt ?_
 refine WC.block ?_
 obtain ⟨e22, he22, hK22⟩ := bnd h
 clear h
 refine WC.loop he22 (fun (x23 : GErr) ρ' M' H' => M.le M' ∧ [(g21, .cells #[(.pointer (some ⟨1, 79, none⟩)), (.pointer (some ⟨g2, 0, none⟩)), (.int .u64 (150 : Int))] 94 (0, 0))] :: [(g1, .cells #[(.string a1.Op), (.int .i64 a1.At), (GV a1.Err)] 78 (0, 0))] :: [(g2, .cells #[(.pointer (some ⟨g1, 0, none⟩))] 79 (0, 0))] :: F = H' ∧ ρ' 0 = (GV x23) ∧ ρ' 1 = (.iface 79 (.pointer (some ⟨g1, 0, none⟩))) ∧ ρ' 3 = (.iface 108 (.agg #[.pointer (some ⟨1, 78, none⟩)])) ∧ ρ' 6 = (.pointer (some ⟨g21, 0, none⟩))) ?_ ?_
 exact ⟨(IM.le.refl _), rfl, (hρ 0), (hρ 1), (hρ 3), rfl⟩
 rintro x23 o22 ρ22 M22 H22 h ⟨hle22, rfl, hs22_0, hs22_1, hs22_3, hs22_6⟩
 unfold f_errors_as_fault_l0 at h
 refine WC.block ?_
 refine WC.seq ?_
 refine Sr ?_
 refine Pm (GV x23) hs22_0 rfl ?_
 rcases x23 with _ | n28 | ⟨o29, a30, e31⟩ | b32
 refine WL.eff (EO.extP xt56 (args1 (show ev _ _ = .nilIface from rfl)) tyNil) rfl ?_
 rintro _ _ _ - ⟨rfl, rfl, rfl⟩
 refine Pm (.iface 108 (.agg #[.pointer (some ⟨1, 78, none⟩)])) hs22_3 rfl ?_
 exact nones h
 refine WL.eff (EO.extP xt56 (args1 (show ev _ _ = (.iface 56 (.int .i64 n28)) from rfl)) (ty56 _)) rfl ?_
 rintro _ _ _ - ⟨rfl, rfl, rfl⟩
 refine Pm (.iface 108 (.agg #[.pointer (some ⟨1, 78, none⟩)])) hs22_3 rfl ?_
 refine WL.eff (EO.invE (show ev _ _ = (.iface 108 (.agg #[.pointer (some ⟨1, 56, none⟩)])) from rfl) (mm_AssignableTo (.pointer (some ⟨1, 56, none⟩))) xt84 (inv1 rfl) mr_AssignableTo_56_78) rfl ?_
 rintro _ _ _ - ⟨rfl, rfl, rfl⟩
 refine Nt ?_
 refine WC.condF (b := false) rfl rfl ?_
 refine WC.skip ?_
 refine WQ.thenC ?_
 refine WC.seq ?_
 refine Sr ?_
 refine Pm (GV (GErr.code n28)) hs22_0 rfl ?_
 refine Pu (.tuple #[.nilIface, (.bool false)]) (PO.asserts (show ev _ _ = (.iface 56 (.int .i64 n28)) from rfl) (la56_112 _ _)) rfl ?_
 refine Pm (.tuple #[.nilIface, (.bool false)]) rfl rfl ?_
 refine Pu .nilIface (PO.extract rfl rfl) rfl ?_
 refine Pu (.bool false) (PO.extract rfl rfl) rfl ?_
 refine Pa .nilIface rfl rfl ?_
 refine Pa (.bool false) rfl rfl ?_
 refine Ns ?_
 refine Pm (.bool false) rfl rfl ?_
 refine Pm (.bool false) rfl rfl ?_
 iterate 3 refine Of 31 rfl rfl rfl rfl ?_
 refine Pu (.bool false) (PO.pickF rfl rfl rfl) rfl ?_
 refine Nt ?_
 refine WC.condF (b := false) rfl rfl ?_
 refine WC.skip ?_
 refine WQ.thenC ?_
 refine Sr ?_
 refine Pm (GV (GErr.code n28)) hs22_0 rfl ?_
 refine Nt ?_
 refine WC.block ?_
 refine Sr ?_
 refine Pu (.tuple #[.nilIface, (.bool false)]) (PO.asserts (show ev _ _ = (.iface 56 (.int .i64 n28)) from rfl) (la56_115 _ _)) rfl ?_
 refine Pu (.bool false) (PO.extract rfl rfl) rfl ?_
 refine Pu .nilIface (PO.extract rfl rfl) rfl ?_
 refine Nt ?_
 refine WC.condF (b := false) rfl rfl ?_
 refine Sr ?_
 refine Pu (.tuple #[.nilIface, (.bool false)]) (PO.asserts (show ev _ _ = (.iface 56 (.int .i64 n28)) from rfl) (la56_116 _ _)) rfl ?_
 refine Pu (.bool false) (PO.extract rfl rfl) rfl ?_
 refine Pu .nilIface (PO.extract rfl rfl) rfl ?_
 refine Nt ?_
 refine WC.condF (b := false) rfl rfl ?_
 refine Sr ?_
 refine Pa (GV (GErr.code n28)) rfl rfl ?_
 refine Ns ?_
 refine Pa (.bool false) rfl rfl ?_
 refine Nt ?_
 refine WC.ret ?_
 refine WQ.blockR ?_
 refine WQ.blockR ?_
 refine WQ.leaveR (false, a1.Op, a1.At, a1.Err) (Option.some.inj h).symm (fun heq22 => ?_)
 subst heq22
 have h := hK22
 refine WQ.blockR ?_
 refine WQ.drop ?_
 exact WQ.returnsF h [[(g1, .cells #[(.string a1.Op), (.int .i64 a1.At), (GV a1.Err)] 78 (0, 0))], [(g2, .cells #[(.pointer (some ⟨g1, 0, none⟩))] 79 (0, 0))]] rfl (results1 rfl rfl) hle22 ⟨rfl, rfl⟩
 refine WL.eff (EO.extP xt56 (args1 (show ev _ _ = (.iface 78 (.agg #[.string o29, .int .i64 a30, GV e31])) from rfl)) (ty78 _)) rfl ?_
 rintro _ _ _ - ⟨rfl, rfl, rfl⟩
 refine Pm (.iface 108 (.agg #[.pointer (some ⟨1, 78, none⟩)])) hs22_3 rfl ?_
 refine WL.eff (EO.invE (show ev _ _ = (.iface 108 (.agg #[.pointer (some ⟨1, 78, none⟩)])) from rfl) (mm_AssignableTo (.pointer (some ⟨1, 78, none⟩))) xt84 (inv1 rfl) mr_AssignableTo_78_78) rfl ?_
 rintro _ _ _ - ⟨rfl, rfl, rfl⟩
 refine Nt ?_
 refine WC.condT (b := true) rfl rfl ?_
 refine Sr ?_
 refine Pu (.agg #[(.pointer (some ⟨1, 79, none⟩)), (.pointer (some ⟨g2, 0, none⟩)), (.int .u64 (150 : Int))]) (PO.loadBA (cs := [(.pointer (some ⟨1, 79, none⟩)), (.pointer (some ⟨g2, 0, none⟩)), (.int .u64 (150 : Int))]) 0 ag94 sz94 hs22_6 rfl rfl) rfl ?_
 refine WL.eff (EO.rvElem (r := fun p => .agg #[(.pointer (some ⟨1, 78, none⟩)), .pointer (some p), .int .u64 409]) 2 xt58 pp79_150 rfl pl79 el79 mk78 (args1 (show ev _ _ = (.agg #[(.pointer (some ⟨1, 79, none⟩)), (.pointer (some ⟨g2, 0, none⟩)), (.int .u64 (150 : Int))]) from rfl)) rfl) rfl ?_
 rintro _ _ _ - ⟨rfl, rfl, rfl⟩
 refine Pm (GV (GErr.fault o29 a30 e31)) hs22_0 rfl ?_
 refine WL.eff (EO.valueOf xt51 (args1 (show ev _ _ = (.iface 78 (.agg #[.string o29, .int .i64 a30, GV e31])) from rfl)) (vo78 o29 a30 (GV e31))) rfl ?_
 rintro _ _ _ - ⟨rfl, g33, rfl, rfl⟩
 refine WL.f2 ?_
 refine WL.eff (EO.rvSet (arr := [(.string a1.Op), (.int .i64 a1.At), (GV a1.Err)]) (vl := [(.string o29), (.int .i64 a30), (GV e31)]) (v := (.agg #[(.string o29), (.int .i64 a30), (GV e31)])) xt59 pp78_409 pp78_153 rfl da78 (args2 (show ev _ _ = (.agg #[(.pointer (some ⟨1, 78, none⟩)), (.pointer (some ⟨g1, 0, none⟩)), (.int .u64 (409 : Int))]) from rfl) (show ev _ _ = (.agg #[(.pointer (some ⟨1, 78, none⟩)), (.pointer (some ⟨g33, 0, none⟩)), (.int .u64 (153 : Int))]) from rfl)) (fun _ hs => run_loadAgg (cs := [(.string o29), (.int .i64 a30), (GV e31)]) ag78 sz78 (fun i v hi => by rw [add_lit]; exact hs.cellC 1 rfl (chunkCell_lit.trans (by simpa using hi)))) rfl sz78 rfl (onesOf (Ones.cons rfl (Ones.cons rfl (Ones.cons (GErr.val_one _ _ _ _) Ones.nil))))) rfl ?_
 rintro _ _ _ - ⟨rfl, rfl, rfl⟩
 refine Ns ?_
 refine Pa (.bool true) rfl rfl ?_
 refine Nt ?_
 refine WC.ret ?_
 refine WQ.thenR ?_
 refine WQ.blockR ?_
 refine WQ.leaveR (true, o29, a30, e31) (Option.some.inj h).symm (fun heq22 => ?_)
 subst heq22
 have h := hK22
 refine WQ.blockR ?_
 refine WQ.f1 ?_
 refine WQ.drop ?_
 refine WQ.f1 ?_
 refine WQ.drop ?_
 exact WQ.returnsF h [[(g1, .cells #[(.string o29), (.int .i64 a30), (GV e31)] 78 (0, 0))], [(g2, .cells #[(.pointer (some ⟨g1, 0, none⟩))] 79 (0, 0))]] rfl (results1 rfl rfl) hle22 ⟨rfl, rfl⟩
 refine WL.eff (EO.extP xt56 (args1 (show ev _ _ = (.iface 0 (.pointer (some b32))) from rfl)) (ty0 _)) rfl ?_
 rintro _ _ _ - ⟨rfl, rfl, rfl⟩
 refine Pm (.iface 108 (.agg #[.pointer (some ⟨1, 78, none⟩)])) hs22_3 rfl ?_
 refine WL.eff (EO.invE (show ev _ _ = (.iface 108 (.agg #[.pointer (some ⟨1, 0, none⟩)])) from rfl) (mm_AssignableTo (.pointer (some ⟨1, 0, none⟩))) xt84 (inv1 rfl) mr_AssignableTo_0_78) rfl ?_
 rintro _ _ _ - ⟨rfl, rfl, rfl⟩
 refine Nt ?_
 refine WC.condF (b := false) rfl rfl ?_
 refine WC.skip ?_
 refine WQ.thenC ?_
 refine WC.seq ?_
 refine Sr ?_
 refine Pm (GV (GErr.other b32)) hs22_0 rfl ?_
 refine Pu (.tuple #[.nilIface, (.bool false)]) (PO.asserts (show ev _ _ = (.iface 0 (.pointer (some b32))) from rfl) (la0_112 _ _)) rfl ?_
 refine Pm (.tuple #[.nilIface, (.bool false)]) rfl rfl ?_
 refine Pu .nilIface (PO.extract rfl rfl) rfl ?_
 refine Pu (.bool false) (PO.extract rfl rfl) rfl ?_
 refine Pa .nilIface rfl rfl ?_
 refine Pa (.bool false) rfl rfl ?_
 refine Ns ?_
 refine Pm (.bool false) rfl rfl ?_
 refine Pm (.bool false) rfl rfl ?_
 iterate 3 refine Of 31 rfl rfl rfl rfl ?_
 refine Pu (.bool false) (PO.pickF rfl rfl rfl) rfl ?_
 refine Nt ?_
 refine WC.condF (b := false) rfl rfl ?_
 refine WC.skip ?_
 refine WQ.thenC ?_
 refine Sr ?_
 refine Pm (GV (GErr.other b32)) hs22_0 rfl ?_
 refine Nt ?_
 refine WC.block ?_
 refine Sr ?_
 refine Pu (.tuple #[.nilIface, (.bool false)]) (PO.asserts (show ev _ _ = (.iface 0 (.pointer (some b32))) from rfl) (la0_115 _ _)) rfl ?_
 refine Pu (.bool false) (PO.extract rfl rfl) rfl ?_
 refine Pu .nilIface (PO.extract rfl rfl) rfl ?_
 refine Nt ?_
 refine WC.condF (b := false) rfl rfl ?_
 refine Sr ?_
 refine Pu (.tuple #[.nilIface, (.bool false)]) (PO.asserts (show ev _ _ = (.iface 0 (.pointer (some b32))) from rfl) (la0_116 _ _)) rfl ?_
 refine Pu (.bool false) (PO.extract rfl rfl) rfl ?_
 refine Pu .nilIface (PO.extract rfl rfl) rfl ?_
 refine Nt ?_
 refine WC.condF (b := false) rfl rfl ?_
 refine Sr ?_
 refine Pa (GV (GErr.other b32)) rfl rfl ?_
 refine Ns ?_
 refine Pa (.bool false) rfl rfl ?_
 refine Nt ?_
 refine WC.ret ?_
 refine WQ.blockR ?_
 refine WQ.blockR ?_
 refine WQ.leaveR (false, a1.Op, a1.At, a1.Err) (Option.some.inj h).symm (fun heq22 => ?_)
 subst heq22
 have h := hK22
 refine WQ.blockR ?_
 refine WQ.drop ?_
 exact WQ.returnsF h [[(g1, .cells #[(.string a1.Op), (.int .i64 a1.At), (GV a1.Err)] 78 (0, 0))], [(g2, .cells #[(.pointer (some ⟨g1, 0, none⟩))] 79 (0, 0))]] rfl (results1 rfl rfl) hle22 ⟨rfl, rfl⟩

noncomputable def f_errors_As_fault (a0 : GErr) (a1 : T_api_Fault) : Option (Bool × ByteArray × Int × GErr) :=
  (if a0.isNil = true then (some (false, a1.Op, a1.At, a1.Err)) else ((f_errors_as_fault a0 a1).bind fun (r24, r25, r26, r27) => (some (r24, r25, r26, r27))))
def f_errors_As_fault_post (a0 : GErr) (a1 : T_api_Fault) (g1 : Nat) : (Bool × ByteArray × Int × GErr) → Value → IM → HL → Prop :=
  fun (p_ : (Bool × ByteArray × Int × GErr)) (v : Value) (M' : IM) (H' : HL) => match p_ with | (r0, r1, r2, r3) => (.bool r0) = v ∧ H' = [[(g1, .cells #[(.string r1), (.int .i64 r2), (GV r3)] 78 (0, 0))]]
set_option maxHeartbeats 8000000 in
set_option maxRecDepth 100000 in
theorem f_errors_As_fault_ok (a0 : GErr) (a1 : T_api_Fault) (M : IM) (g1 : Nat) (hE : Env M) (res : (Bool × ByteArray × Int × GErr)) (h : f_errors_As_fault a0 a1 = some res) :
    Tri Tryd.prog 42 #[(GV a0), (.iface 79 (.pointer (some ⟨g1, 0, none⟩)))] M [[(g1, .cells #[(.string a1.Op), (.int .i64 a1.At), (GV a1.Err)] 78 (0, 0))]] (f_errors_As_fault_post a0 a1 g1 res) := by
 unfold f_errors_As_fault at h
 refine Tri.enter (fn := Tryd.f42) Tryd.func42 rfl (Nat.le_of_ble_eq_true rfl) ?_
 intro F ρ hρ
 refine Sr ?_
 refine Pa (.bool false) rfl rfl ?_
 refine Nt ?_
 refine WC.seq ?_
 refine Sr ?_
 refine Pm (GV a0) (hρ 0) rfl ?_
 refine Pu (.bool a0.isNil) (PO.errNil Tryd.underlying45 rfl) rfl ?_
 refine Nt ?_
 refine WC.cond (b := a0.isNil) rfl (fun hb21 => ?_) (fun hb21 => ?_)
 have h := ite_t hb21 h
 refine Sr ?_
 refine Pa (.bool false) rfl rfl ?_
 refine Nt ?_
 refine WC.ret ?_
 refine WQ.thenR ?_
 exact WQ.returnsF h [[(g1, .cells #[(.string a1.Op), (.int .i64 a1.At), (GV a1.Err)] 78 (0, 0))]] rfl (results1 rfl rfl) (IM.le.refl _) ⟨rfl, rfl⟩
 have h := ite_f hb21 h
 refine WC.skip ?_
 refine WQ.thenC ?_
 refine WC.seq ?_
 refine Sr ?_
 refine Pm (.iface 79 (.pointer (some ⟨g1, 0, none⟩))) (hρ 1) rfl ?_
 refine Pu (.bool false) (PO.ifcNil Tryd.underlying20 rfl) rfl ?_
 refine Nt ?_
 refine WC.condF (b := false) rfl rfl ?_
 refine WC.skip ?_
 refine WQ.thenC ?_
 refine Sr ?_
 refine Pm (.iface 79 (.pointer (some ⟨g1, 0, none⟩))) (hρ 1) rfl ?_
 refine WL.eff (EO.valueOf xt51 (args1 (show ev _ _ = (.iface 79 (.pointer (some ⟨g1, 0, none⟩))) from rfl)) (vo79 ⟨g1, 0, none⟩)) rfl ?_
 rintro _ _ _ - ⟨rfl, g22, rfl, rfl⟩
 refine WL.eff (EO.alloc ze94 rfl) rfl ?_
 rintro _ _ _ - ⟨rfl, g23, rfl, rfl⟩
 refine WL.eff (EO.storeL (v := (.agg #[(.pointer (some ⟨1, 79, none⟩)), (.pointer (some ⟨g22, 0, none⟩)), (.int .u64 (150 : Int))])) (vl := [(.pointer (some ⟨1, 79, none⟩)), (.pointer (some ⟨g22, 0, none⟩)), (.int .u64 (150 : Int))]) (arr' := [(.pointer (some ⟨1, 79, none⟩)), (.pointer (some ⟨g22, 0, none⟩)), (.int .u64 (150 : Int))]) rfl sz94 rfl rfl (onesOf (Ones.cons rfl (Ones.cons rfl (Ones.cons rfl Ones.nil)))) rfl rfl rfl) rfl ?_
 rintro _ _ _ - ⟨rfl, rfl⟩
 refine Ns ?_
 refine Pu (.agg #[(.pointer (some ⟨1, 79, none⟩)), (.pointer (some ⟨g22, 0, none⟩)), (.int .u64 (150 : Int))]) (PO.loadBA (cs := [(.pointer (some ⟨1, 79, none⟩)), (.pointer (some ⟨g22, 0, none⟩)), (.int .u64 (150 : Int))]) 0 ag94 sz94 rfl rfl rfl) rfl ?_
 refine WL.eff (EO.extP xt52 (args1 (show ev _ _ = (.agg #[(.pointer (some ⟨1, 79, none⟩)), (.pointer (some ⟨g22, 0, none⟩)), (.int .u64 (150 : Int))]) from rfl)) (vt79_150 _)) rfl ?_
 rintro _ _ _ - ⟨rfl, rfl, rfl⟩
 refine Pa (.iface 108 (.agg #[.pointer (some ⟨1, 79, none⟩)])) rfl rfl ?_
 refine Nt ?_
 refine WC.seq ?_
 refine Sr ?_
 refine Pm (.iface 108 (.agg #[.pointer (some ⟨1, 79, none⟩)])) rfl rfl ?_
 refine WL.eff (EO.invE (show ev _ _ = (.iface 108 (.agg #[.pointer (some ⟨1, 79, none⟩)])) from rfl) (mm_Kind (.pointer (some ⟨1, 79, none⟩))) xt74 inv0 mr_Kind_79) rfl ?_
 rintro _ _ _ - ⟨rfl, rfl, rfl⟩
 refine Pu (.bool false) (PO.neqR rfl rfl (by decide)) rfl ?_
 refine Pm (.bool false) rfl rfl ?_
 refine On 20 rfl rfl rfl ?_
 refine Pu (.agg #[(.pointer (some ⟨1, 79, none⟩)), (.pointer (some ⟨g22, 0, none⟩)), (.int .u64 (150 : Int))]) (PO.loadBA (cs := [(.pointer (some ⟨1, 79, none⟩)), (.pointer (some ⟨g22, 0, none⟩)), (.int .u64 (150 : Int))]) 0 ag94 sz94 rfl rfl rfl) rfl ?_
 refine On 20 rfl rfl rfl ?_
 refine WL.eff (EO.isNil 1 xt53 pp79_150 rfl pl79 (args1 (show ev _ _ = (.agg #[(.pointer (some ⟨1, 79, none⟩)), (.pointer (some ⟨g22, 0, none⟩)), (.int .u64 (150 : Int))]) from rfl)) rfl) rfl ?_
 rintro _ _ _ - ⟨rfl, rfl, rfl⟩
 refine Pu (.bool false) (PO.pickF rfl rfl rfl) rfl ?_
 refine Nt ?_
 refine WC.condF (b := false) rfl rfl ?_
 refine WC.skip ?_
 refine WQ.thenC ?_
 refine Sr ?_
 refine Pm (.iface 108 (.agg #[.pointer (some ⟨1, 79, none⟩)])) rfl rfl ?_
 refine WL.eff (EO.invE (show ev _ _ = (.iface 108 (.agg #[.pointer (some ⟨1, 79, none⟩)])) from rfl) (mm_Elem (.pointer (some ⟨1, 79, none⟩))) xt86 inv0 mr_Elem_79) rfl ?_
 rintro _ _ _ - ⟨rfl, rfl, rfl⟩
 refine Pa (.iface 108 (.agg #[.pointer (some ⟨1, 78, none⟩)])) rfl rfl ?_
 refine Nt ?_
 refine WC.seq ?_
 refine Sr ?_
 refine Pm (.iface 108 (.agg #[.pointer (some ⟨1, 78, none⟩)])) rfl rfl ?_
 refine WL.eff (EO.invE (show ev _ _ = (.iface 108 (.agg #[.pointer (some ⟨1, 78, none⟩)])) from rfl) (mm_Kind (.pointer (some ⟨1, 78, none⟩))) xt74 inv0 mr_Kind_78) rfl ?_
 rintro _ _ _ - ⟨rfl, rfl, rfl⟩
 refine Pu (.bool true) (PO.neqR rfl rfl (by decide)) rfl ?_
 refine Pm (.bool true) rfl rfl ?_
 refine On 30 rfl rfl rfl ?_
 refine Pm (.iface 108 (.agg #[.pointer (some ⟨1, 78, none⟩)])) rfl rfl ?_
 refine On 30 rfl rfl rfl ?_
 refine Pu (.iface 108 (.agg #[.pointer (some ⟨1, 45, none⟩)])) (PO.loadG pl97 hE) rfl ?_
 refine On 30 rfl rfl rfl ?_
 refine WL.eff (EO.invE (show ev _ _ = (.iface 108 (.agg #[.pointer (some ⟨1, 78, none⟩)])) from rfl) (mm_Implements (.pointer (some ⟨1, 78, none⟩))) xt87 (inv1 rfl) mr_Implements_78_45) rfl ?_
 rintro _ _ _ - ⟨rfl, rfl, rfl⟩
 refine On 30 rfl rfl rfl ?_
 refine Pu (.bool (!true)) (PO.not rfl) rfl ?_
 refine Pu (.bool (!true)) (PO.pickT rfl rfl rfl) rfl ?_
 refine Nt ?_
 refine WC.condF (b := !true) rfl rfl ?_
 refine WC.skip ?_
 refine WQ.thenC ?_
 refine Sr ?_
 refine Pm (GV a0) (hρ 0) rfl ?_
 refine Pm (.iface 79 (.pointer (some ⟨g1, 0, none⟩))) (hρ 1) rfl ?_
 refine Pu (.agg #[(.pointer (some ⟨1, 79, none⟩)), (.pointer (some ⟨g22, 0, none⟩)), (.int .u64 (150 : Int))]) (PO.loadBA (cs := [(.pointer (some ⟨1, 79, none⟩)), (.pointer (some ⟨g22, 0, none⟩)), (.int .u64 (150 : Int))]) 0 ag94 sz94 rfl rfl rfl) rfl ?_
 refine Pm (.iface 108 (.agg #[.pointer (some ⟨1, 78, none⟩)])) rfl rfl ?_
 obtain ⟨⟨r24, r25, r26, r27⟩, hr28, h⟩ := bnd h
 refine WL.f1 ?_
 refine WL.f2 ?_
 refine WL.eff (EO.call2 co54 (f_errors_as_fault_ok a0 a1 _ _ _ (r24, r25, r26, r27) hr28) (args4 rfl rfl rfl rfl)) rfl ?_
 rintro _ M29 _ hle30 ⟨_, ⟨rfl, rfl⟩, rfl⟩
 have hE := hE.mono hle30
 refine WL.a2 ?_
 refine Pa (.bool r24) rfl rfl ?_
 refine Nt ?_
 refine WC.ret ?_
 refine WQ.f1 ?_
 refine WQ.drop ?_
 refine WQ.f1 ?_
 refine WQ.drop ?_
 exact WQ.returnsF h [[(g1, .cells #[(.string r25), (.int .i64 r26), (GV r27)] 78 (0, 0))]] rfl (results1 rfl rfl) hle30 ⟨rfl, rfl⟩

noncomputable def f_fault_Where (a0 : GErr) : Option (Int × Bool) :=
  ((f_errors_As_fault a0 (⟨(⟨#[]⟩ : ByteArray), (0 : Int), GErr.nil⟩ : T_api_Fault)).bind fun (r22, r23, r24, r25) => (if (!r22) = true then (some ((0 : Int), false)) else (some (r24, true))))
def f_fault_Where_post (a0 : GErr) : (Int × Bool) → Value → IM → HL → Prop :=
  fun (p_ : (Int × Bool)) (v : Value) (M' : IM) (H' : HL) => match p_ with | (r0, r1) => (.tuple #[(.int .i64 r0), (.bool r1)]) = v ∧ H' = []
set_option maxHeartbeats 8000000 in
set_option maxRecDepth 100000 in
theorem f_fault_Where_ok (a0 : GErr) (M : IM) (hE : Env M) (res : (Int × Bool)) (h : f_fault_Where a0 = some res) :
    Tri Tryd.prog 32 #[(GV a0)] M [] (f_fault_Where_post a0 res) := by
 unfold f_fault_Where at h
 refine Tri.enter (fn := Tryd.f32) Tryd.func32 rfl (Nat.le_of_ble_eq_true rfl) ?_
 intro F ρ hρ
 refine Sr ?_
 refine Pa (.int .i64 (0 : Int)) rfl rfl ?_
 refine Pa (.bool false) rfl rfl ?_
 refine Ns ?_
 refine WL.eff (EO.alloc ze78 rfl) rfl ?_
 rintro _ _ _ - ⟨rfl, g21, rfl, rfl⟩
 refine Nt ?_
 refine WC.seq ?_
 refine Sr ?_
 refine Pm (GV a0) (hρ 0) rfl ?_
 refine Pu (.iface 79 (.pointer (some ⟨g21, 0, none⟩))) (PO.makeInterface cc79 rfl) rfl ?_
 obtain ⟨⟨r22, r23, r24, r25⟩, hr26, h⟩ := bnd h
 refine WL.eff (EO.call1 co42 (f_errors_As_fault_ok a0 (⟨(⟨#[]⟩ : ByteArray), (0 : Int), GErr.nil⟩ : T_api_Fault) _ _ hE (r22, r23, r24, r25) hr26) (args2 rfl rfl)) rfl ?_
 rintro _ M27 _ hle28 ⟨_, ⟨rfl, rfl⟩, rfl⟩
 have hE := hE.mono hle28
 refine WL.a1 ?_
 refine Pu (.bool (!r22)) (PO.not rfl) rfl ?_
 refine Nt ?_
 refine WC.cond (b := !r22) rfl (fun hb30 => ?_) (fun hb30 => ?_)
 have h := ite_t hb30 h
 refine Sr ?_
 refine Pa (.int .i64 (0 : Int)) rfl rfl ?_
 refine Pa (.bool false) rfl rfl ?_
 refine Nt ?_
 refine WC.ret ?_
 refine WQ.thenR ?_
 refine WQ.drop ?_
 exact WQ.returnsF h [] rfl (results2 rfl rfl rfl) hle28 ⟨rfl, rfl⟩
 have h := ite_f hb30 h
 refine WC.skip ?_
 refine WQ.thenC ?_
 refine Sr ?_
 refine Pu (.pointer (some ⟨g21, 1, none⟩)) (PO.fieldAddr fo78_1 rfl rfl) rfl ?_
 refine Pu (.int .i64 r24) (PO.loadB 0 pl3 rfl rfl rfl) rfl ?_
 refine Pa (.int .i64 r24) rfl rfl ?_
 refine Pa (.bool true) rfl rfl ?_
 refine Nt ?_
 refine WC.ret ?_
 refine WQ.drop ?_
 exact WQ.returnsF h [] rfl (results2 rfl rfl rfl) hle28 ⟨rfl, rfl⟩

noncomputable def f_api_Fault_Unwrap (a0 : T_api_Fault) : Option GErr :=
  (some a0.Err)
def f_api_Fault_Unwrap_post (a0 : T_api_Fault) : GErr → Value → IM → HL → Prop :=
  fun (r0 : GErr) (v : Value) (M' : IM) (H' : HL) => (GV r0) = v ∧ H' = []
set_option maxHeartbeats 8000000 in
set_option maxRecDepth 100000 in
theorem f_api_Fault_Unwrap_ok (a0 : T_api_Fault) (M : IM) (res : GErr) (h : f_api_Fault_Unwrap a0 = some res) :
    Tri Tryd.prog 79 #[(.agg #[(.string a0.Op), (.int .i64 a0.At), (GV a0.Err)])] M [] (f_api_Fault_Unwrap_post a0 res) := by
 unfold f_api_Fault_Unwrap at h
 refine Tri.enter (fn := Tryd.f79) Tryd.func79 rfl (Nat.le_of_ble_eq_true rfl) ?_
 intro F ρ hρ
 refine Sr ?_
 refine WL.eff (EO.box (cs := #[(.string a0.Op), (.int .i64 a0.At), (GV a0.Err)]) (congrArg Value.cells (asE (.agg #[(.string a0.Op), (.int .i64 a0.At), (GV a0.Err)]) (hρ 0)))) rfl ?_
 rintro _ _ _ - ⟨rfl, g21, rfl, rfl⟩
 refine Pa (GV GErr.nil) rfl rfl ?_
 refine Ns ?_
 refine Pu (.pointer (some ⟨g21, 2, none⟩)) (PO.fieldAddr fo78_2 rfl rfl) rfl ?_
 refine Pu (GV a0.Err) (PO.loadB 0 pl45 rfl rfl rfl) rfl ?_
 refine Pa (GV a0.Err) rfl rfl ?_
 refine Nt ?_
 refine WC.ret ?_
 refine WQ.drop ?_
 exact WQ.returnsF h [] rfl (results1 rfl rfl) (IM.le.refl _) ⟨rfl, rfl⟩

noncomputable def f_errors_is_l0 (a1 : Int) (s_ : GErr) : Option (GErr ⊕ Bool) :=
  match s_ with
  | x22 =>
    (match x22 with | .nil => (some (Sum.inr false)) | .code n24 => (if (decide (n24 = a1)) = true then (some (Sum.inr true)) else (some (Sum.inr false))) | .fault o25 a26 e27 => ((f_api_Fault_Unwrap (⟨o25, a26, e27⟩ : T_api_Fault)).bind fun (r30 : GErr) => (if r30.isNil = true then (some (Sum.inr false)) else (some (Sum.inl r30)))) | .other b28 => (some (Sum.inr false)))
noncomputable def f_errors_is (a0 : GErr) (a1 : Int) : Option Bool :=
  ((iter (f_errors_is_l0 a1) a0).bind (fun (x23 : Bool) => (some x23)))
def f_errors_is_post (a0 : GErr) (a1 : Int) : Bool → Value → IM → HL → Prop :=
  fun (r0 : Bool) (v : Value) (M' : IM) (H' : HL) => (.bool r0) = v ∧ H' = []
set_option maxHeartbeats 8000000 in
set_option maxRecDepth 100000 in
theorem f_errors_is_ok (a0 : GErr) (a1 : Int) (M : IM) (res : Bool) (h : f_errors_is a0 a1 = some res) :
    Tri Tryd.prog 57 #[(GV a0), (GV (GErr.code a1)), (.bool true)] M [] (f_errors_is_post a0 a1 res) := by
 unfold f_errors_is at h
 refine Tri.enter (fn := Tryd.f57) Tryd.func57 rfl (Nat.le_of_ble_eq_true rfl) ?_
 intro F ρ hρ
 refine Sr ?_
 refine Pa (.bool false) rfl rfl ?_
 refine Nt ?_
 refine WC.block ?_
 obtain ⟨e21, he21, hK21⟩ := bnd h
 clear h
 refine WC.loop he21 (fun (x22 : GErr) ρ' M' H' => M.le M' ∧ F = H' ∧ ρ' 0 = (GV x22) ∧ ρ' 1 = (GV (GErr.code a1)) ∧ ρ' 2 = (.bool true)) ?_ ?_
 exact ⟨(IM.le.refl _), rfl, (hρ 0), (hρ 1), (hρ 2)⟩
 rintro x22 o21 ρ21 M21 H21 h ⟨hle21, rfl, hs21_0, hs21_1, hs21_2⟩
 unfold f_errors_is_l0 at h
 refine WC.block ?_
 refine WC.seq ?_
 refine Sr ?_
 refine Pm (.bool true) hs21_2 rfl ?_
 refine Pm (.bool true) rfl rfl ?_
 refine On 15 rfl rfl rfl ?_
 refine Pm (GV x22) hs21_0 rfl ?_
 refine On 15 rfl rfl rfl ?_
 refine Pm (GV (GErr.code a1)) hs21_1 rfl ?_
 refine On 15 rfl rfl rfl ?_
 rcases x22 with _ | n24 | ⟨o25, a26, e27⟩ | b28
 refine Pu (.bool false) (PO.nilIfaceNe Tryd.underlying45 (show ev _ _ = .nilIface from rfl) (show ev _ _ = (.iface 56 (.int .i64 a1)) from rfl)) rfl ?_
 refine Pu (.bool false) (PO.pickT rfl rfl rfl) rfl ?_
 refine Nt ?_
 refine WC.condF (b := false) rfl rfl ?_
 refine WC.skip ?_
 refine WQ.thenC ?_
 refine WC.seq ?_
 refine Sr ?_
 refine Pm (GV GErr.nil) hs21_0 rfl ?_
 refine Pu (.tuple #[.nilIface, (.bool false)]) (PO.asserts (show ev _ _ = .nilIface from rfl) (run_assert_nil zo119 Tryd.underlying119)) rfl ?_
 refine Pm (.tuple #[.nilIface, (.bool false)]) rfl rfl ?_
 refine Pu .nilIface (PO.extract rfl rfl) rfl ?_
 refine Pu (.bool false) (PO.extract rfl rfl) rfl ?_
 refine Pa .nilIface rfl rfl ?_
 refine Pa (.bool false) rfl rfl ?_
 refine Ns ?_
 refine Pm (.bool false) rfl rfl ?_
 refine Pm (.bool false) rfl rfl ?_
 iterate 3 refine Of 26 rfl rfl rfl rfl ?_
 refine Pu (.bool false) (PO.pickF rfl rfl rfl) rfl ?_
 refine Nt ?_
 refine WC.condF (b := false) rfl rfl ?_
 refine WC.skip ?_
 refine WQ.thenC ?_
 refine Sr ?_
 refine Pm (GV GErr.nil) hs21_0 rfl ?_
 refine Nt ?_
 refine WC.block ?_
 refine Sr ?_
 refine Pu (.tuple #[.nilIface, (.bool false)]) (PO.asserts (show ev _ _ = .nilIface from rfl) (run_assert_nil zo115 Tryd.underlying115)) rfl ?_
 refine Pu (.bool false) (PO.extract rfl rfl) rfl ?_
 refine Pu .nilIface (PO.extract rfl rfl) rfl ?_
 refine Nt ?_
 refine WC.condF (b := false) rfl rfl ?_
 refine Sr ?_
 refine Pu (.tuple #[.nilIface, (.bool false)]) (PO.asserts (show ev _ _ = .nilIface from rfl) (run_assert_nil zo116 Tryd.underlying116)) rfl ?_
 refine Pu (.bool false) (PO.extract rfl rfl) rfl ?_
 refine Pu .nilIface (PO.extract rfl rfl) rfl ?_
 refine Nt ?_
 refine WC.condF (b := false) rfl rfl ?_
 refine Sr ?_
 refine Pa (GV GErr.nil) rfl rfl ?_
 refine Ns ?_
 refine Pa (.bool false) rfl rfl ?_
 refine Nt ?_
 refine WC.ret ?_
 refine WQ.blockR ?_
 refine WQ.blockR ?_
 refine WQ.leaveR false (Option.some.inj h).symm (fun heq21 => ?_)
 subst heq21
 have h := hK21
 refine WQ.blockR ?_
 exact WQ.returnsF h [] rfl (results1 rfl rfl) hle21 ⟨rfl, rfl⟩
 refine Pu (.bool (decide (n24 = a1))) (PO.ifaceInt Tryd.underlying45 Tryd.underlying56 cm56 (show ev _ _ = (.iface 56 (.int .i64 n24)) from rfl) (show ev _ _ = (.iface 56 (.int .i64 a1)) from rfl)) rfl ?_
 refine Pu (.bool (decide (n24 = a1))) (PO.pickT rfl rfl rfl) rfl ?_
 refine Nt ?_
 refine WC.cond (b := decide (n24 = a1)) rfl (fun hb29 => ?_) (fun hb29 => ?_)
 have h := ite_t hb29 h
 refine Sr ?_
 refine Pa (.bool true) rfl rfl ?_
 refine Nt ?_
 refine WC.ret ?_
 refine WQ.thenR ?_
 refine WQ.blockR ?_
 refine WQ.leaveR true (Option.some.inj h).symm (fun heq21 => ?_)
 subst heq21
 have h := hK21
 refine WQ.blockR ?_
 exact WQ.returnsF h [] rfl (results1 rfl rfl) hle21 ⟨rfl, rfl⟩
 have h := ite_f hb29 h
 refine WC.skip ?_
 refine WQ.thenC ?_
 refine WC.seq ?_
 refine Sr ?_
 refine Pm (GV (GErr.code n24)) hs21_0 rfl ?_
 refine Pu (.tuple #[.nilIface, (.bool false)]) (PO.asserts (show ev _ _ = (.iface 56 (.int .i64 n24)) from rfl) (la56_119 _ _)) rfl ?_
 refine Pm (.tuple #[.nilIface, (.bool false)]) rfl rfl ?_
 refine Pu .nilIface (PO.extract rfl rfl) rfl ?_
 refine Pu (.bool false) (PO.extract rfl rfl) rfl ?_
 refine Pa .nilIface rfl rfl ?_
 refine Pa (.bool false) rfl rfl ?_
 refine Ns ?_
 refine Pm (.bool false) rfl rfl ?_
 refine Pm (.bool false) rfl rfl ?_
 iterate 3 refine Of 26 rfl rfl rfl rfl ?_
 refine Pu (.bool false) (PO.pickF rfl rfl rfl) rfl ?_
 refine Nt ?_
 refine WC.condF (b := false) rfl rfl ?_
 refine WC.skip ?_
 refine WQ.thenC ?_
 refine Sr ?_
 refine Pm (GV (GErr.code n24)) hs21_0 rfl ?_
 refine Nt ?_
 refine WC.block ?_
 refine Sr ?_
 refine Pu (.tuple #[.nilIface, (.bool false)]) (PO.asserts (show ev _ _ = (.iface 56 (.int .i64 n24)) from rfl) (la56_115 _ _)) rfl ?_
 refine Pu (.bool false) (PO.extract rfl rfl) rfl ?_
 refine Pu .nilIface (PO.extract rfl rfl) rfl ?_
 refine Nt ?_
 refine WC.condF (b := false) rfl rfl ?_
 refine Sr ?_
 refine Pu (.tuple #[.nilIface, (.bool false)]) (PO.asserts (show ev _ _ = (.iface 56 (.int .i64 n24)) from rfl) (la56_116 _ _)) rfl ?_
 refine Pu (.bool false) (PO.extract rfl rfl) rfl ?_
 refine Pu .nilIface (PO.extract rfl rfl) rfl ?_
 refine Nt ?_
 refine WC.condF (b := false) rfl rfl ?_
 refine Sr ?_
 refine Pa (GV (GErr.code n24)) rfl rfl ?_
 refine Ns ?_
 refine Pa (.bool false) rfl rfl ?_
 refine Nt ?_
 refine WC.ret ?_
 refine WQ.blockR ?_
 refine WQ.blockR ?_
 refine WQ.leaveR false (Option.some.inj h).symm (fun heq21 => ?_)
 subst heq21
 have h := hK21
 refine WQ.blockR ?_
 exact WQ.returnsF h [] rfl (results1 rfl rfl) hle21 ⟨rfl, rfl⟩
 refine Pu (.bool false) (PO.ifaceNe Tryd.underlying45 (show ev _ _ = (.iface 78 (.agg #[.string o25, .int .i64 a26, GV e27])) from rfl) (show ev _ _ = (.iface 56 (.int .i64 a1)) from rfl) rfl) rfl ?_
 refine Pu (.bool false) (PO.pickT rfl rfl rfl) rfl ?_
 refine Nt ?_
 refine WC.condF (b := false) rfl rfl ?_
 refine WC.skip ?_
 refine WQ.thenC ?_
 refine WC.seq ?_
 refine Sr ?_
 refine Pm (GV (GErr.fault o25 a26 e27)) hs21_0 rfl ?_
 refine Pu (.tuple #[.nilIface, (.bool false)]) (PO.asserts (show ev _ _ = (.iface 78 (.agg #[.string o25, .int .i64 a26, GV e27])) from rfl) (la78_119 _ _)) rfl ?_
 refine Pm (.tuple #[.nilIface, (.bool false)]) rfl rfl ?_
 refine Pu .nilIface (PO.extract rfl rfl) rfl ?_
 refine Pu (.bool false) (PO.extract rfl rfl) rfl ?_
 refine Pa .nilIface rfl rfl ?_
 refine Pa (.bool false) rfl rfl ?_
 refine Ns ?_
 refine Pm (.bool false) rfl rfl ?_
 refine Pm (.bool false) rfl rfl ?_
 iterate 3 refine Of 26 rfl rfl rfl rfl ?_
 refine Pu (.bool false) (PO.pickF rfl rfl rfl) rfl ?_
 refine Nt ?_
 refine WC.condF (b := false) rfl rfl ?_
 refine WC.skip ?_
 refine WQ.thenC ?_
 refine Sr ?_
 refine Pm (GV (GErr.fault o25 a26 e27)) hs21_0 rfl ?_
 refine Nt ?_
 refine WC.block ?_
 refine Sr ?_
 refine Pu (.tuple #[(GV (GErr.fault o25 a26 e27)), (.bool true)]) (PO.asserts (show ev _ _ = (.iface 78 (.agg #[.string o25, .int .i64 a26, GV e27])) from rfl) (ha78_115 _ _)) rfl ?_
 refine Pu (.bool true) (PO.extract rfl rfl) rfl ?_
 refine Pu (GV (GErr.fault o25 a26 e27)) (PO.extract rfl rfl) rfl ?_
 refine Nt ?_
 refine WC.condT (b := true) rfl rfl ?_
 refine Sr ?_
 refine Pa (GV (GErr.fault o25 a26 e27)) rfl rfl ?_
 refine Ns ?_
 refine Pm (GV (GErr.fault o25 a26 e27)) rfl rfl ?_
 obtain ⟨r30, hr31, h⟩ := bnd h
 refine WL.eff (EO.invT (show ev _ _ = (.iface 78 (.agg #[.string o25, .int .i64 a26, GV e27])) from rfl) (me78_Unwrap _) co79 inv0 (f_api_Fault_Unwrap_ok (⟨o25, a26, e27⟩ : T_api_Fault) _ r30 hr31)) rfl ?_
 rintro _ M32 _ hle33 ⟨_, ⟨rfl, rfl⟩, rfl⟩
 refine WL.a0 ?_
 refine Pa (GV r30) rfl rfl ?_
 refine Ns ?_
 refine Pm (GV r30) rfl rfl ?_
 refine Pu (.bool r30.isNil) (PO.errNil Tryd.underlying45 rfl) rfl ?_
 refine Nt ?_
 refine WC.cond (b := r30.isNil) rfl (fun hb35 => ?_) (fun hb35 => ?_)
 have h := ite_t hb35 h
 refine Sr ?_
 refine Pa (.bool false) rfl rfl ?_
 refine Nt ?_
 refine WC.ret ?_
 refine WQ.blockR ?_
 refine WQ.blockR ?_
 refine WQ.leaveR false (Option.some.inj h).symm (fun heq21 => ?_)
 subst heq21
 have h := hK21
 refine WQ.blockR ?_
 exact WQ.returnsF h [] rfl (results1 rfl rfl) (hle21.trans hle33) ⟨rfl, rfl⟩
 have h := ite_f hb35 h
 refine WC.skip ?_
 refine WQ.blockN ?_
 refine WQ.blockN ?_
 refine WQ.again r30 (Option.some.inj h).symm ?_
 exact ⟨(hle21.trans hle33), rfl, rfl, hs21_1, hs21_2⟩
 refine Pu (.bool false) (PO.ifaceNe Tryd.underlying45 (show ev _ _ = (.iface 0 (.pointer (some b28))) from rfl) (show ev _ _ = (.iface 56 (.int .i64 a1)) from rfl) rfl) rfl ?_
 refine Pu (.bool false) (PO.pickT rfl rfl rfl) rfl ?_
 refine Nt ?_
 refine WC.condF (b := false) rfl rfl ?_
 refine WC.skip ?_
 refine WQ.thenC ?_
 refine WC.seq ?_
 refine Sr ?_
 refine Pm (GV (GErr.other b28)) hs21_0 rfl ?_
 refine Pu (.tuple #[.nilIface, (.bool false)]) (PO.asserts (show ev _ _ = (.iface 0 (.pointer (some b28))) from rfl) (la0_119 _ _)) rfl ?_
 refine Pm (.tuple #[.nilIface, (.bool false)]) rfl rfl ?_
 refine Pu .nilIface (PO.extract rfl rfl) rfl ?_
 refine Pu (.bool false) (PO.extract rfl rfl) rfl ?_
 refine Pa .nilIface rfl rfl ?_
 refine Pa (.bool false) rfl rfl ?_
 refine Ns ?_
 refine Pm (.bool false) rfl rfl ?_
 refine Pm (.bool false) rfl rfl ?_
 iterate 3 refine Of 26 rfl rfl rfl rfl ?_
 refine Pu (.bool false) (PO.pickF rfl rfl rfl) rfl ?_
 refine Nt ?_
 refine WC.condF (b := false) rfl rfl ?_
 refine WC.skip ?_
 refine WQ.thenC ?_
 refine Sr ?_
 refine Pm (GV (GErr.other b28)) hs21_0 rfl ?_
 refine Nt ?_
 refine WC.block ?_
 refine Sr ?_
 refine Pu (.tuple #[.nilIface, (.bool false)]) (PO.asserts (show ev _ _ = (.iface 0 (.pointer (some b28))) from rfl) (la0_115 _ _)) rfl ?_
 refine Pu (.bool false) (PO.extract rfl rfl) rfl ?_
 refine Pu .nilIface (PO.extract rfl rfl) rfl ?_
 refine Nt ?_
 refine WC.condF (b := false) rfl rfl ?_
 refine Sr ?_
 refine Pu (.tuple #[.nilIface, (.bool false)]) (PO.asserts (show ev _ _ = (.iface 0 (.pointer (some b28))) from rfl) (la0_116 _ _)) rfl ?_
 refine Pu (.bool false) (PO.extract rfl rfl) rfl ?_
 refine Pu .nilIface (PO.extract rfl rfl) rfl ?_
 refine Nt ?_
 refine WC.condF (b := false) rfl rfl ?_
 refine Sr ?_
 refine Pa (GV (GErr.other b28)) rfl rfl ?_
 refine Ns ?_
 refine Pa (.bool false) rfl rfl ?_
 refine Nt ?_
 refine WC.ret ?_
 refine WQ.blockR ?_
 refine WQ.blockR ?_
 refine WQ.leaveR false (Option.some.inj h).symm (fun heq21 => ?_)
 subst heq21
 have h := hK21
 refine WQ.blockR ?_
 exact WQ.returnsF h [] rfl (results1 rfl rfl) hle21 ⟨rfl, rfl⟩

noncomputable def f_errors_Is (a0 : GErr) (a1 : Int) : Option Bool :=
  (if a0.isNil = true then (match a0 with | .nil => (some false) | .code n22 => (some (decide (n22 = a1))) | .fault o23 a24 e25 => (some false) | .other b26 => (some false)) else ((f_errors_is a0 a1).bind fun (r27 : Bool) => (some r27)))
def f_errors_Is_post (a0 : GErr) (a1 : Int) : Bool → Value → IM → HL → Prop :=
  fun (r0 : Bool) (v : Value) (M' : IM) (H' : HL) => (.bool r0) = v ∧ H' = []
set_option maxHeartbeats 8000000 in
set_option maxRecDepth 100000 in
theorem f_errors_Is_ok (a0 : GErr) (a1 : Int) (M : IM) (res : Bool) (h : f_errors_Is a0 a1 = some res) :
    Tri Tryd.prog 49 #[(GV a0), (GV (GErr.code a1))] M [] (f_errors_Is_post a0 a1 res) := by
 unfold f_errors_Is at h
 refine Tri.enter (fn := Tryd.f49) Tryd.func49 rfl (Nat.le_of_ble_eq_true rfl) ?_
 intro F ρ hρ
 refine Sr ?_
 refine Pa (.bool false) rfl rfl ?_
 refine Nt ?_
 refine WC.seq ?_
 refine Sr ?_
 refine Pm (GV a0) (hρ 0) rfl ?_
 refine Pu (.bool a0.isNil) (PO.errNil Tryd.underlying45 rfl) rfl ?_
 refine Pm (.bool a0.isNil) rfl rfl ?_
 rcases Bool.eq_false_or_eq_true (a0.isNil) with hb21 | hb21
 have h := ite_t hb21 h
 iterate 2 refine Of 8 rfl rfl hb21 rfl ?_
 refine Pu (.bool true) (PO.pickT rfl hb21 rfl) rfl ?_
 refine Nt ?_
 refine WC.condT (b := true) rfl rfl ?_
 refine Sr ?_
 refine Pm (GV a0) (hρ 0) rfl ?_
 refine Pm (GV (GErr.code a1)) (hρ 1) rfl ?_
 rcases a0 with _ | n22 | ⟨o23, a24, e25⟩ | b26
 refine Pu (.bool false) (PO.nilIfaceNe Tryd.underlying45 (show ev _ _ = .nilIface from rfl) (show ev _ _ = (.iface 56 (.int .i64 a1)) from rfl)) rfl ?_
 refine Pa (.bool false) rfl rfl ?_
 refine Nt ?_
 refine WC.ret ?_
 refine WQ.thenR ?_
 exact WQ.returnsF h [] rfl (results1 rfl rfl) (IM.le.refl _) ⟨rfl, rfl⟩
 refine Pu (.bool (decide (n22 = a1))) (PO.ifaceInt Tryd.underlying45 Tryd.underlying56 cm56 (show ev _ _ = (.iface 56 (.int .i64 n22)) from rfl) (show ev _ _ = (.iface 56 (.int .i64 a1)) from rfl)) rfl ?_
 refine Pa (.bool (decide (n22 = a1))) rfl rfl ?_
 refine Nt ?_
 refine WC.ret ?_
 refine WQ.thenR ?_
 exact WQ.returnsF h [] rfl (results1 rfl rfl) (IM.le.refl _) ⟨rfl, rfl⟩
 refine Pu (.bool false) (PO.ifaceNe Tryd.underlying45 (show ev _ _ = (.iface 78 (.agg #[.string o23, .int .i64 a24, GV e25])) from rfl) (show ev _ _ = (.iface 56 (.int .i64 a1)) from rfl) rfl) rfl ?_
 refine Pa (.bool false) rfl rfl ?_
 refine Nt ?_
 refine WC.ret ?_
 refine WQ.thenR ?_
 exact WQ.returnsF h [] rfl (results1 rfl rfl) (IM.le.refl _) ⟨rfl, rfl⟩
 refine Pu (.bool false) (PO.ifaceNe Tryd.underlying45 (show ev _ _ = (.iface 0 (.pointer (some b26))) from rfl) (show ev _ _ = (.iface 56 (.int .i64 a1)) from rfl) rfl) rfl ?_
 refine Pa (.bool false) rfl rfl ?_
 refine Nt ?_
 refine WC.ret ?_
 refine WQ.thenR ?_
 exact WQ.returnsF h [] rfl (results1 rfl rfl) (IM.le.refl _) ⟨rfl, rfl⟩
 have h := ite_f hb21 h
 refine On 8 rfl rfl hb21 ?_
 refine Pm (GV (GErr.code a1)) (hρ 1) rfl ?_
 refine On 8 rfl rfl hb21 ?_
 refine Pu (.bool false) (PO.errNil (tc := 56) (tf := 78) (tp := 0) (e := GErr.code a1) Tryd.underlying45 rfl) rfl ?_
 refine Pu (.bool false) (PO.pickF rfl hb21 rfl) rfl ?_
 refine Nt ?_
 refine WC.condF (b := false) rfl rfl ?_
 refine WC.skip ?_
 refine WQ.thenC ?_
 refine Sr ?_
 refine Pm (GV (GErr.code a1)) (hρ 1) rfl ?_
 refine WL.eff (EO.extP xt56 (args1 (show ev _ _ = (.iface 56 (.int .i64 a1)) from rfl)) (ty56 _)) rfl ?_
 rintro _ _ _ - ⟨rfl, rfl, rfl⟩
 refine WL.eff (EO.invE (show ev _ _ = (.iface 108 (.agg #[.pointer (some ⟨1, 56, none⟩)])) from rfl) (mm_Comparable (.pointer (some ⟨1, 56, none⟩))) xt85 inv0 mr_Comparable_56) rfl ?_
 rintro _ _ _ - ⟨rfl, rfl, rfl⟩
 refine Pa (.bool true) rfl rfl ?_
 refine Ns ?_
 refine Pm (GV a0) (hρ 0) rfl ?_
 refine Pm (GV (GErr.code a1)) (hρ 1) rfl ?_
 refine Pm (.bool true) rfl rfl ?_
 obtain ⟨r27, hr28, h⟩ := bnd h
 refine WL.eff (EO.call0 co57 (f_errors_is_ok a0 a1 _ r27 hr28) (args3 rfl rfl rfl)) rfl ?_
 rintro _ M29 _ hle30 ⟨_, ⟨rfl, rfl⟩, rfl⟩
 refine WL.a0 ?_
 refine Pa (.bool r27) rfl rfl ?_
 refine Nt ?_
 refine WC.ret ?_
 exact WQ.returnsF h [] rfl (results1 rfl rfl) hle30 ⟨rfl, rfl⟩

noncomputable def f_fault_Is (a0 : GErr) (a1 : Int) : Option Bool :=
  ((f_errors_Is a0 a1).bind fun (r21 : Bool) => (some r21))
def f_fault_Is_post (a0 : GErr) (a1 : Int) : Bool → Value → IM → HL → Prop :=
  fun (r0 : Bool) (v : Value) (M' : IM) (H' : HL) => (.bool r0) = v ∧ H' = []
set_option maxHeartbeats 8000000 in
set_option maxRecDepth 100000 in
theorem f_fault_Is_ok (a0 : GErr) (a1 : Int) (M : IM) (res : Bool) (h : f_fault_Is a0 a1 = some res) :
    Tri Tryd.prog 37 #[(GV a0), (.int .i64 a1)] M [] (f_fault_Is_post a0 a1 res) := by
 unfold f_fault_Is at h
 refine Tri.enter (fn := Tryd.f37) Tryd.func37 rfl (Nat.le_of_ble_eq_true rfl) ?_
 intro F ρ hρ
 refine Sr ?_
 refine Pa (.bool false) rfl rfl ?_
 refine Ns ?_
 refine Pm (GV a0) (hρ 0) rfl ?_
 refine Pm (.int .i64 a1) (hρ 1) rfl ?_
 refine Pu (GV (GErr.code a1)) (PO.makeInterface cc56 rfl) rfl ?_
 obtain ⟨r21, hr22, h⟩ := bnd h
 refine WL.eff (EO.call0 co49 (f_errors_Is_ok a0 a1 _ r21 hr22) (args2 rfl rfl)) rfl ?_
 rintro _ M23 _ hle24 ⟨_, ⟨rfl, rfl⟩, rfl⟩
 refine WL.a0 ?_
 refine Pa (.bool r21) rfl rfl ?_
 refine Nt ?_
 refine WC.ret ?_
 exact WQ.returnsF h [] rfl (results1 rfl rfl) hle24 ⟨rfl, rfl⟩

noncomputable def f_wire_Reader_At (a0 : T_wire_Reader) : Option Int :=
  (some a0.at_)
def f_wire_Reader_At_post (a0 : T_wire_Reader) (v0_0 : Value) (g0 : Nat) : Int → Value → IM → HL → Prop :=
  fun (r0 : Int) (v : Value) (M' : IM) (H' : HL) => (.int .i64 r0) = v ∧ H' = [[(g0, .cells #[v0_0, (.int .i64 a0.at_), (GV a0.err)] 73 (0, 0))]]
set_option maxHeartbeats 8000000 in
set_option maxRecDepth 100000 in
theorem f_wire_Reader_At_ok (a0 : T_wire_Reader) (M : IM) (v0_0 : Value) (g0 : Nat) (h0_0 : RS (Kd.int .u8) M v0_0 a0.b) (res : Int) (h : f_wire_Reader_At a0 = some res) :
    Tri Tryd.prog 29 #[(.pointer (some ⟨g0, 0, none⟩))] M [[(g0, .cells #[v0_0, (.int .i64 a0.at_), (GV a0.err)] 73 (0, 0))]] (f_wire_Reader_At_post a0 v0_0 g0 res) := by
 unfold f_wire_Reader_At at h
 refine Tri.enter (fn := Tryd.f29) Tryd.func29 rfl (Nat.le_of_ble_eq_true rfl) ?_
 intro F ρ hρ
 refine Sr ?_
 refine Pa (.int .i64 (0 : Int)) rfl rfl ?_
 refine Ns ?_
 refine Pm (.pointer (some ⟨g0, 0, none⟩)) (hρ 0) rfl ?_
 refine Pu (.pointer (some ⟨g0, 0, none⟩)) (PO.nilCheck rfl) rfl ?_
 refine Pu (.pointer (some ⟨g0, 1, none⟩)) (PO.fieldAddr fo73_1 rfl rfl) rfl ?_
 refine Pu (.int .i64 a0.at_) (PO.loadB 0 pl3 rfl rfl rfl) rfl ?_
 refine Pa (.int .i64 a0.at_) rfl rfl ?_
 refine Nt ?_
 refine WC.ret ?_
 exact WQ.returnsF h [[(g0, .cells #[v0_0, (.int .i64 a0.at_), (GV a0.err)] 73 (0, 0))]] rfl (results1 rfl rfl) (IM.le.refl _) ⟨rfl, rfl⟩


end Go.Proofs.YtdlilclopmhiaaaDoor.G
