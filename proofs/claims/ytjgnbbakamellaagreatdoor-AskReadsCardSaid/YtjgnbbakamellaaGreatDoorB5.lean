/- Go functions: what they come to, and that they do. Printed by a program of the session (gen). -/
import Derived.Test.YtjgnbbakamellaaGreatDoorBF
import Derived.Test.YtjgnbbakamellaaGreatDoorB4
import Derived.Test.YtjgnbbakamellaaGreatDoorKConv
import Derived.Test.YtjgnbbakamellaaGreatDoorKEq2
set_option linter.unusedVariables false
set_option linter.unusedSimpArgs false
set_option maxHeartbeats 8000000
set_option maxRecDepth 100000
namespace Go.Proofs.YtjgnbbakamellaaGreatDoor.G
open Go Go.KK

noncomputable def f_wire_Reader_Row_l0 (a0 : T_wire_Reader) (a2 : Int) (r21 : Int) (s_ : ((List Int) × Int × Int × GErr)) : Option (((List Int) × Int × Int × GErr) ⊕ ((List Int) × Int × GErr)) :=
  match s_ with
  | (x33, x34, x35, x36) =>
    (((if (decide (x34 < r21)) = true then (some x36.isNil) else (some false)) : Option Bool).bind fun (x40 : Bool) => (if x40 = true then ((f_wire_Reader_Int (⟨a0.b, x35, x36⟩ : T_wire_Reader) a2).bind fun (r44, r45, r46) => (grd (x33.length + [r44].length ≤ 274877906944) (some (Sum.inl (x33 ++ [r44], IntKind.i64.wrap (x34 + (1 : Int)), r45, r46))))) else (some (Sum.inr (x33, x35, x36)))))
noncomputable def f_wire_Reader_Row (a0 : T_wire_Reader) (a1 : Int) (a2 : Int) : Option ((List Int) × Int × GErr) :=
  ((f_wire_Reader_Int a0 a1).bind fun (r21, r22, r23) => ((((iter (f_wire_Reader_Row_l0 a0 a2 r21) ([], (0 : Int), r22, r23)).bind (fun (x37, x38, x39) => (some (x37, x38, x39)))) : Option ((List Int) × Int × GErr)).bind fun (x28, x29, x30) => (if (!x30.isNil) = true then (some ([], x29, x30)) else (some (x28, x29, x30)))))
def f_wire_Reader_Row_post (a0 : T_wire_Reader) (a1 : Int) (a2 : Int) (v0_0 : Value) (g0 : Nat) : ((List Int) × Int × GErr) → Value → IM → HL → Prop :=
  fun (p_ : ((List Int) × Int × GErr)) (v : Value) (M' : IM) (H' : HL) => match p_ with | (r0, r1, r2) => ∃ vz0 cz0, vz0 = v ∧ H' = [[(g0, .cells #[v0_0, (.int .i64 r1), (GV r2)] 100 (0, 0))], cz0] ∧ OwnS (Kd.int .i64) M' vz0 r0 cz0
theorem f_wire_Reader_Row_ok (a0 : T_wire_Reader) (a1 : Int) (a2 : Int) (M : IM) (v0_0 : Value) (g0 : Nat) (h0_0 : RS (Kd.int .u8) M v0_0 a0.b) (res : ((List Int) × Int × GErr)) (h : f_wire_Reader_Row a0 a1 a2 = some res) :
    Tri Tryz.prog 26 #[(pt g0 0), (.int .i64 a1), (.int .i64 a2)] M [[(g0, .cells #[v0_0, (.int .i64 a0.at_), (GV a0.err)] 100 (0, 0))]] (f_wire_Reader_Row_post a0 a1 a2 v0_0 g0 res) := by
 unfold f_wire_Reader_Row at h
 refine Tri.enter (fn := Tryz.f26) Tryz.func26 rfl (Nat.le_of_ble_eq_true rfl) ?_
 intro F ρ hρ
 refine Sr ?_
 refine Pa (.slice none 0 0) rfl rfl ?_
 refine Ns ?_
 refine Pm (pt g0 0) (hρ 0) rfl ?_
 refine Pm (.int .i64 a1) (hρ 1) rfl ?_
 obtain ⟨⟨r21, r22, r23⟩, hr24, h⟩ := bnd h
 refine WL.eff (EO.call1 co19 (f_wire_Reader_Int_ok a0 a1 _ _ _ h0_0 (r21, r22, r23) hr24) (args2 rfl rfl)) rfl ?_
 rintro _ M25 _ hle26 ⟨_, ⟨rfl, rfl⟩, rfl⟩
 have h0_0 := h0_0.mono hle26
 refine WL.a1 ?_
 refine Pa (.int .i64 r21) rfl rfl ?_
 refine Ns ?_
 refine Pa (.slice none 0 0) rfl rfl ?_
 refine Nt ?_
 obtain ⟨j31, hj31, h⟩ := bnd h
 refine WC.joinF (fun (p_ : ((List Int) × Int × GErr)) ρ' M' H' => match p_ with | (x28, x29, x30) => ∃ vx28 cx28, M25.le M' ∧ [(g0, .cells #[v0_0, (.int .i64 x29), (GV x30)] 100 (0, 0))] :: cx28 :: F = H' ∧ ρ' 0 = (pt g0 0) ∧ ρ' 8 = vx28 ∧ OwnS (Kd.int .i64) M' vx28 x28 cx28) j31 ?_ ?_
 have h331 := h
 have h := hj31
 refine Sr ?_
 refine Pa (.int .i64 0) rfl rfl ?_
 refine Nt ?_
 refine WC.block ?_
 refine WC.e0 ?_
 refine WC.f1 ?_
 obtain ⟨e32, he32, hK32⟩ := bnd h
 clear h
 refine WC.loop he32 (fun (p_ : ((List Int) × Int × Int × GErr)) ρ' M' H' => match p_ with | (x33, x34, x35, x36) => ∃ vx33 cx33, M25.le M' ∧ [(g0, .cells #[v0_0, (.int .i64 x35), (GV x36)] 100 (0, 0))] :: cx33 :: F = H' ∧ ρ' 0 = (pt g0 0) ∧ ρ' 2 = (.int .i64 a2) ∧ ρ' 7 = (.int .i64 r21) ∧ ρ' 8 = vx33 ∧ ρ' 9 = (.int .i64 x34) ∧ OwnS (Kd.int .i64) M' vx33 x33 cx33) ?_ ?_
 exact ⟨(.slice none 0 0), [], (IM.le.refl _), rfl, (hρ 0), (hρ 2), rfl, rfl, rfl, (OwnS.nil _ _)⟩
 rintro ⟨x33, x34, x35, x36⟩ o32 ρ32 M32 H32 h ⟨vx33, cx33, hle32, rfl, hs32_0, hs32_2, hs32_7, hs32_8, hs32_9, hx33⟩
 unfold f_wire_Reader_Row_l0 at h
 have h0_0 := h0_0.mono hle32
 refine WC.seq ?_
 obtain ⟨x40, hj41, h⟩ := bnd h
 refine WC.joinF (fun (x40 : Bool) ρ' M' H' => M32.le M' ∧ [(g0, .cells #[v0_0, (.int .i64 x35), (GV x36)] 100 (0, 0))] :: cx33 :: F = H' ∧ ρ' 0 = (pt g0 0) ∧ ρ' 2 = (.int .i64 a2) ∧ ρ' 7 = (.int .i64 r21) ∧ ρ' 8 = vx33 ∧ ρ' 9 = (.int .i64 x34) ∧ ρ' 22 = (.bool x40)) x40 ?_ ?_
 have h341 := h
 have h := hj41
 refine WC.region ?_
 refine Pm (.int .i64 x34) hs32_9 rfl ?_
 refine Pm (.int .i64 r21) hs32_7 rfl ?_
 refine Pu (.bool (decide (x34 < r21))) (PO.lss rfl rfl) rfl ?_
 refine Pm (.bool (decide (x34 < r21))) rfl rfl ?_
 rcases Bool.eq_false_or_eq_true (decide (x34 < r21)) with hb42 | hb42
 have h := ite_t hb42 h
 refine On 16 rfl rfl hb42 ?_
 refine Pm (pt g0 0) hs32_0 rfl ?_
 refine On 16 rfl rfl hb42 ?_
 refine Pu (pt g0 0) (PO.nilCheck rfl) rfl ?_
 refine On 16 rfl rfl hb42 ?_
 refine Pu (pt g0 2) (PO.fieldAddr fo100_2 rfl rfl) rfl ?_
 refine On 16 rfl rfl hb42 ?_
 refine Pu (GV x36) (PO.loadB 0 pl30 rfl rfl rfl) rfl ?_
 refine On 16 rfl rfl hb42 ?_
 refine Pu (.bool x36.isNil) (PO.errNil Tryz.underlying30 rfl) rfl ?_
 refine Pu (.bool x36.isNil) (PO.pickT rfl hb42 rfl) rfl ?_
 refine WL.nil ?_
 obtain rfl := Option.some.inj h
 refine WQ.thenJ ?_
 exact ⟨(IM.le.refl _), rfl, hs32_0, hs32_2, hs32_7, hs32_8, hs32_9, rfl⟩
 have h := ite_f hb42 h
 iterate 5 refine Of 16 rfl rfl hb42 rfl ?_
 refine Pu (.bool false) (PO.pickF rfl hb42 rfl) rfl ?_
 refine WL.nil ?_
 obtain rfl := Option.some.inj h
 refine WQ.thenJ ?_
 exact ⟨(IM.le.refl _), rfl, hs32_0, hs32_2, hs32_7, hs32_8, hs32_9, rfl⟩
 rintro ρ41 M41 H41 ⟨hle41, rfl, hs41_0, hs41_2, hs41_7, hs41_8, hs41_9, hs41_22⟩
 have hx33 := hx33.mono hle41
 have h0_0 := h0_0.mono hle41
 refine WC.cond (b := x40) hs41_22 (fun hb43 => ?_) (fun hb43 => ?_)
 have h := ite_t hb43 h
 refine WC.skip ?_
 refine WQ.thenC ?_
 refine WC.seq ?_
 refine WC.block ?_
 refine WC.region ?_
 refine Pm vx33 hs41_8 rfl ?_
 refine Pm (pt g0 0) hs41_0 rfl ?_
 refine Pm (.int .i64 a2) hs41_2 rfl ?_
 obtain ⟨⟨r44, r45, r46⟩, hr47, h⟩ := bnd h
 refine WL.eff (EO.call1 co19 (f_wire_Reader_Int_ok (⟨a0.b, x35, x36⟩ : T_wire_Reader) a2 _ _ _ h0_0 (r44, r45, r46) hr47) (args2 rfl rfl)) rfl ?_
 rintro _ M48 _ hle49 ⟨_, ⟨rfl, rfl⟩, rfl⟩
 have hx33 := hx33.mono hle49
 have h0_0 := h0_0.mono hle49
 refine WL.a1 ?_
 refine WL.eff (EO.buildSliceL (cl := [(.int .i64 r44)]) Tryz.underlying24 iz3 rfl (Parts.cons (congrArg Value.cells (show ev _ _ = (.int .i64 r44) from rfl)) Parts.nil) rfl) rfl ?_
 rintro _ _ _ - ⟨rfl, g51, rfl, rfl⟩
 have h53 : OwnS (Kd.int .i64) M48 (.slice (some ⟨g51, 0, none⟩) 1 1) [r44] [(g51, .cells #[(.int .i64 r44)] 3 (0, 0))] := OwnS.rows (css := [[(.int .i64 r44)]]) (Rows.cons rfl Rows.nil) rfl rfl
 obtain ⟨hg57, h⟩ := grd_i h
 refine WL.f2 ?_
 refine WL.eff (EO.append (dd := (Kd.int .i64)) (xs := x33) (ys := [r44]) Tryz.underlying24 Tryz.underlying24 in3 rfl (appB (by decide) hg57) (by decide) rfl rfl hx33 (h53.src 1 rfl)) rfl ?_
 rintro v56 _ _ - ⟨rfl, c54, rfl, h55⟩
 refine Pa v56 rfl rfl ?_
 refine WL.nil ?_
 refine WQ.blockN ?_
 refine WQ.thenC ?_
 refine WC.region ?_
 refine Pm (.int .i64 x34) hs41_9 rfl ?_
 refine Pu (.int .i64 (IntKind.i64.wrap (x34 + 1))) (PO.add rfl rfl) rfl ?_
 refine Pa (.int .i64 (IntKind.i64.wrap (x34 + 1))) rfl rfl ?_
 refine WL.nil ?_
 refine WQ.f1 ?_
 refine WQ.drop ?_
 refine WQ.f1 ?_
 refine WQ.again (x33 ++ [r44], IntKind.i64.wrap (x34 + 1), r45, r46) (Option.some.inj h).symm ?_
 exact ⟨v56, c54, ((hle32.trans hle41).trans hle49), rfl, hs41_0, hs41_2, hs41_7, rfl, rfl, h55⟩
 have h := ite_f hb43 h
 refine WC.exit ?_
 refine WQ.thenE ?_
 refine WQ.leaveE (x33, x35, x36) (Option.some.inj h).symm (fun heq32 => ?_)
 subst heq32
 have h := hK32
 refine WQ.blockH ?_
 obtain rfl := Option.some.inj h
 refine WQ.thenJ ?_
 exact ⟨vx33, cx33, (hle32.trans hle41), rfl, hs41_0, hs41_8, hx33⟩
 obtain ⟨x28, x29, x30⟩ := j31
 rintro ρ31 M31 H31 ⟨vx28, cx28, hle31, rfl, hs31_0, hs31_8, hx28⟩
 have h0_0 := h0_0.mono hle31
 refine WC.seq ?_
 refine Sr ?_
 refine Pm (pt g0 0) hs31_0 rfl ?_
 refine Pu (pt g0 0) (PO.nilCheck rfl) rfl ?_
 refine Pu (pt g0 2) (PO.fieldAddr fo100_2 rfl rfl) rfl ?_
 refine Pu (GV x30) (PO.loadB 0 pl30 rfl rfl rfl) rfl ?_
 refine Pu (.bool (!x30.isNil)) (PO.errNotNil Tryz.underlying30 rfl) rfl ?_
 refine Nt ?_
 refine WC.cond (b := !x30.isNil) rfl (fun hb59 => ?_) (fun hb59 => ?_)
 have h := ite_t hb59 h
 refine Sr ?_
 refine Pa (.slice none 0 0) rfl rfl ?_
 refine Nt ?_
 refine WC.ret ?_
 refine WQ.thenR ?_
 refine WQ.e0 ?_
 refine WQ.f2 ?_
 refine WQ.drop ?_
 refine WQ.f1 ?_
 exact WQ.returnsF h [[(g0, .cells #[v0_0, (.int .i64 x29), (GV x30)] 100 (0, 0))], []] rfl (results1 rfl rfl) (hle26.trans hle31) ⟨(.slice none 0 0), [], rfl, rfl, (OwnS.nil _ _)⟩
 have h := ite_f hb59 h
 refine WC.skip ?_
 refine WQ.thenC ?_
 refine Sr ?_
 refine Pm vx28 hs31_8 rfl ?_
 refine Pa vx28 rfl rfl ?_
 refine Nt ?_
 refine WC.ret ?_
 exact WQ.returnsF h [[(g0, .cells #[v0_0, (.int .i64 x29), (GV x30)] 100 (0, 0))], cx28] rfl (results1 rfl rfl) (hle26.trans hle31) ⟨vx28, cx28, rfl, rfl, hx28⟩

noncomputable def f_wire_Reader_End (a0 : T_wire_Reader) : Option (GErr × GErr) :=
  (((if (decide (a0.at_ < (a0.b.length : Int))) = true then ((f_wire_Reader_fail a0 (⟨#[101, 110, 100]⟩ : ByteArray) a0.at_ (5 : Int)).bind fun (r24 : GErr) => (some r24)) else (some a0.err)) : Option GErr).bind fun (x21 : GErr) => (some (x21, x21)))
def f_wire_Reader_End_post (a0 : T_wire_Reader) (v0_0 : Value) (g0 : Nat) : (GErr × GErr) → Value → IM → HL → Prop :=
  fun (p_ : (GErr × GErr)) (v : Value) (M' : IM) (H' : HL) => match p_ with | (r0, r1) => (GV r0) = v ∧ H' = [[(g0, .cells #[v0_0, (.int .i64 a0.at_), (GV r1)] 100 (0, 0))]]
theorem f_wire_Reader_End_ok (a0 : T_wire_Reader) (M : IM) (v0_0 : Value) (g0 : Nat) (h0_0 : RS (Kd.int .u8) M v0_0 a0.b) (res : (GErr × GErr)) (h : f_wire_Reader_End a0 = some res) :
    Tri Tryz.prog 27 #[(pt g0 0)] M [[(g0, .cells #[v0_0, (.int .i64 a0.at_), (GV a0.err)] 100 (0, 0))]] (f_wire_Reader_End_post a0 v0_0 g0 res) := by
 unfold f_wire_Reader_End at h
 refine Tri.enter (fn := Tryz.f27) Tryz.func27 rfl (Nat.le_of_ble_eq_true rfl) ?_
 intro F ρ hρ
 refine Sr ?_
 refine Pa (GV GErr.nil) rfl rfl ?_
 refine Nt ?_
 obtain ⟨x21, hj22, h⟩ := bnd h
 refine WC.joinF (fun (x21 : GErr) ρ' M' H' => M.le M' ∧ [(g0, .cells #[v0_0, (.int .i64 a0.at_), (GV x21)] 100 (0, 0))] :: F = H' ∧ ρ' 0 = (pt g0 0)) x21 ?_ ?_
 have h322 := h
 have h := hj22
 refine WC.seq ?_
 refine WC.draw [0, 1, 3, 7, 0, 16, 48, 112, 240, 511] (.pure 0 (.pure 1 (.pure 2 (.pure 3 (.pure 4 (.pure 5 (.pure 6 (.pure 7 (.pure 8 (.pure 9 .done)))))))))) mixed (by kernel_rfl) ?_
 refine Tp (pt g0 0) rfl (PO.move (hρ 0)) rfl ?_
 refine Tp (pt g0 0) rfl (PO.nilCheck rfl) rfl ?_
 refine Tp (pt g0 1) rfl (PO.fieldAddr fo100_1 rfl rfl) rfl ?_
 refine Tp (.int .i64 a0.at_) rfl (PO.loadB 0 pl3 rfl rfl rfl) rfl ?_
 refine Tp (pt g0 0) rfl (PO.move (hρ 0)) rfl ?_
 refine Tp (pt g0 0) rfl (PO.nilCheck rfl) rfl ?_
 refine Tp (pt g0 0) rfl (PO.fieldAddr fo100_0 rfl rfl) rfl ?_
 refine Tp v0_0 rfl (PO.loadB 0 pl22 rfl rfl rfl) rfl ?_
 refine Tp (.int .i64 (a0.b.length : Int)) rfl (PO.lenS Tryz.underlying22 rfl h0_0.len) rfl ?_
 refine Tp (.bool (decide (a0.at_ < (a0.b.length : Int)))) rfl (PO.lss rfl rfl) rfl ?_
 refine WT.fin ?_
 refine WQ.thenC ?_
 refine WC.cond (b := decide (a0.at_ < (a0.b.length : Int))) rfl (fun hb23 => ?_) (fun hb23 => ?_)
 have h := ite_t hb23 h
 refine WC.region ?_
 refine Pm (pt g0 0) (hρ 0) rfl ?_
 refine Pm (pt g0 0) (hρ 0) rfl ?_
 refine Pu (pt g0 0) (PO.nilCheck rfl) rfl ?_
 refine Pu (pt g0 1) (PO.fieldAddr fo100_1 rfl rfl) rfl ?_
 refine Pu (.int .i64 a0.at_) (PO.loadB 0 pl3 rfl rfl rfl) rfl ?_
 obtain ⟨r24, hr25, h⟩ := bnd h
 refine WL.eff (EO.call1 co59 (f_wire_Reader_fail_ok a0 (⟨#[101, 110, 100]⟩ : ByteArray) a0.at_ (5 : Int) _ _ _ h0_0 r24 hr25) (args4 rfl rfl rfl rfl)) rfl ?_
 rintro _ M26 _ hle27 ⟨_, ⟨rfl, rfl⟩, rfl⟩
 have h0_0 := h0_0.mono hle27
 refine WL.a1 ?_
 refine WL.nil ?_
 obtain rfl := Option.some.inj h
 refine WQ.thenJ ?_
 exact ⟨hle27, rfl, (hρ 0)⟩
 have h := ite_f hb23 h
 refine WC.skip ?_
 obtain rfl := Option.some.inj h
 refine WQ.thenJ ?_
 exact ⟨(IM.le.refl _), rfl, (hρ 0)⟩
 rintro ρ22 M22 H22 ⟨hle22, rfl, hs22_0⟩
 have h0_0 := h0_0.mono hle22
 refine Sr ?_
 refine Pm (pt g0 0) hs22_0 rfl ?_
 refine Pu (pt g0 0) (PO.nilCheck rfl) rfl ?_
 refine Pu (pt g0 2) (PO.fieldAddr fo100_2 rfl rfl) rfl ?_
 refine Pu (GV x21) (PO.loadB 0 pl30 rfl rfl rfl) rfl ?_
 refine Pa (GV x21) rfl rfl ?_
 refine Nt ?_
 refine WC.ret ?_
 exact WQ.returnsF h [[(g0, .cells #[v0_0, (.int .i64 a0.at_), (GV x21)] 100 (0, 0))]] rfl (results1 rfl rfl) hle22 ⟨rfl, rfl⟩


end Go.Proofs.YtjgnbbakamellaaGreatDoor.G
