/- Go functions: what they come to, and that they do. Printed by a program of the session (gen). -/
import Derived.Test.YtjiffdgidodebaaGreatDoorPF
import Derived.Test.YtjiffdgidodebaaGreatDoorP5
import Derived.Test.YtjiffdgidodebaaGreatDoorKShar2
import Derived.Test.YtjiffdgidodebaaGreatDoorKConv
set_option linter.unusedVariables false
set_option linter.unusedSimpArgs false
set_option maxHeartbeats 8000000
set_option maxRecDepth 100000
namespace Go.Proofs.YtjiffdgidodebaaGreatDoor.G
open Go Go.KK

noncomputable def f_record_Read_2 (a0 : Int) (a1 : Int) (a2q : T_wire_Reader) : Option (ByteArray × Int × GErr) :=
  (if (decide ((andI .i64 a1 a0) = (0 : Int))) = true then (some ((⟨#[]⟩ : ByteArray), a2q.at_, a2q.err)) else ((f_wire_Reader_Text a2q (256 : Int)).bind fun (r22, r23, r24) => (some (strOfNums r22, r23, r24))))
def f_record_Read_2_post (a0 : Int) (a1 : Int) (a2q : T_wire_Reader) (v2q_0 : Value) (g1 g2 g2q : Nat) : (ByteArray × Int × GErr) → Value → IM → HL → Prop :=
  fun (p_ : (ByteArray × Int × GErr)) (v : Value) (M' : IM) (H' : HL) => match p_ with | (r0, r1, r2) => (.string r0) = v ∧ H' = [[(g1, .cells #[(.int .i64 a1)] 3 (0, 0))], [(g2q, .cells #[v2q_0, (.int .i64 r1), (GV r2)] 85 (0, 0))], [(g2, .cells #[(.pointer (some ⟨g2q, 0, none⟩))] 53 (0, 0))]]
theorem f_record_Read_2_ok (a0 : Int) (a1 : Int) (a2q : T_wire_Reader) (M : IM) (v2q_0 : Value) (g1 g2 g2q : Nat) (h2q_0 : RS (Kd.int .u8) M v2q_0 a2q.b) (res : (ByteArray × Int × GErr)) (h : f_record_Read_2 a0 a1 a2q = some res) :
    Tri Tryz.prog 83 #[(.int .i64 a0), (pt g1 0), (pt g2 0)] M [[(g1, .cells #[(.int .i64 a1)] 3 (0, 0))], [(g2q, .cells #[v2q_0, (.int .i64 a2q.at_), (GV a2q.err)] 85 (0, 0))], [(g2, .cells #[(pt g2q 0)] 53 (0, 0))]] (f_record_Read_2_post a0 a1 a2q v2q_0 g1 g2 g2q res) := by
 unfold f_record_Read_2 at h
 refine Tri.enter (fn := Tryz.f83) Tryz.func83 rfl (Nat.le_of_ble_eq_true rfl) ?_
 intro F ρ hρ
 refine Sr ?_
 refine Pa (.string ⟨#[]⟩) rfl rfl ?_
 refine Nt ?_
 refine WC.seq ?_
 refine Sr ?_
 refine Pu (.int .i64 a1) (PO.loadB 0 pl3 (hρ 1) rfl rfl) rfl ?_
 refine Pm (.int .i64 a0) (hρ 0) rfl ?_
 refine Pu (.int .i64 (andI .i64 a1 a0)) (PO.and rfl rfl) rfl ?_
 refine Pu (.bool (decide ((andI .i64 a1 a0) = 0))) (PO.eql rfl rfl) rfl ?_
 refine Nt ?_
 refine WC.cond (b := decide ((andI .i64 a1 a0) = 0)) rfl (fun hb21 => ?_) (fun hb21 => ?_)
 have h := ite_t hb21 h
 refine Sr ?_
 refine Pa (.string ⟨#[]⟩) rfl rfl ?_
 refine Nt ?_
 refine WC.ret ?_
 refine WQ.thenR ?_
 exact WQ.returnsF h [[(g1, .cells #[(.int .i64 a1)] 3 (0, 0))], [(g2q, .cells #[v2q_0, (.int .i64 a2q.at_), (GV a2q.err)] 85 (0, 0))], [(g2, .cells #[(pt g2q 0)] 53 (0, 0))]] rfl (results1 rfl rfl) (IM.le.refl _) ⟨rfl, rfl⟩
 have h := ite_f hb21 h
 refine WC.skip ?_
 refine WQ.thenC ?_
 refine Sr ?_
 refine Pu (pt g2q 0) (PO.loadB 2 pl53 (hρ 2) rfl rfl) rfl ?_
 obtain ⟨⟨r22, r23, r24⟩, hr25, h⟩ := bnd h
 refine WL.f1 ?_
 refine WL.eff (EO.call1 co84 (f_wire_Reader_Text_ok a2q (256 : Int) _ _ _ h2q_0 (r22, r23, r24) hr25) (args2 rfl rfl)) rfl ?_
 rintro _ M26 _ hle27 ⟨_, ⟨vq28, cq28, rfl, rfl, hq28⟩, rfl⟩
 have h2q_0 := h2q_0.mono hle27
 refine WL.a2 ?_
 refine Pu (.string (strOfNums r22)) (PO.b2s (ys := r22) Tryz.underlying40 Tryz.underlying5 Tryz.underlying9 rfl (hq28.src 1 rfl)) rfl ?_
 refine Pa (.string (strOfNums r22)) rfl rfl ?_
 refine Nt ?_
 refine WC.ret ?_
 refine WQ.f1 ?_
 refine WQ.drop ?_
 refine WQ.f2 ?_
 refine WQ.f1 ?_
 refine WQ.f2 ?_
 exact WQ.returnsF h [[(g1, .cells #[(.int .i64 a1)] 3 (0, 0))], [(g2q, .cells #[v2q_0, (.int .i64 r23), (GV r24)] 85 (0, 0))], [(g2, .cells #[(pt g2q 0)] 53 (0, 0))]] rfl (results1 rfl rfl) hle27 ⟨rfl, rfl⟩

noncomputable def f_wire_Reader_Row_l0 (a0 : T_wire_Reader) (a2 : Int) (r21 : Int) (s_ : ((List Int) × Int × Int × GErr)) : Option (((List Int) × Int × Int × GErr) ⊕ ((List Int) × Int × GErr)) :=
  match s_ with
  | (x33, x34, x35, x36) =>
    (((if (decide (x34 < r21)) = true then (some x36.isNil) else (some false)) : Option Bool).bind fun (x40 : Bool) => (if x40 = true then ((f_wire_Reader_Int (⟨a0.b, x35, x36⟩ : T_wire_Reader) a2).bind fun (r44, r45, r46) => (grd (x33.length + [r44].length ≤ 274877906944) (some (Sum.inl (x33 ++ [r44], IntKind.i64.wrap (x34 + (1 : Int)), r45, r46))))) else (some (Sum.inr (x33, x35, x36)))))
noncomputable def f_wire_Reader_Row (a0 : T_wire_Reader) (a1 : Int) (a2 : Int) : Option ((List Int) × Int × GErr) :=
  ((f_wire_Reader_Int a0 a1).bind fun (r21, r22, r23) => ((((iter (f_wire_Reader_Row_l0 a0 a2 r21) ([], (0 : Int), r22, r23)).bind (fun (x37, x38, x39) => (some (x37, x38, x39)))) : Option ((List Int) × Int × GErr)).bind fun (x28, x29, x30) => (if (!x30.isNil) = true then (some ([], x29, x30)) else (some (x28, x29, x30)))))
def f_wire_Reader_Row_post (a0 : T_wire_Reader) (a1 : Int) (a2 : Int) (v0_0 : Value) (g0 : Nat) : ((List Int) × Int × GErr) → Value → IM → HL → Prop :=
  fun (p_ : ((List Int) × Int × GErr)) (v : Value) (M' : IM) (H' : HL) => match p_ with | (r0, r1, r2) => ∃ vz0 cz0, vz0 = v ∧ H' = [[(g0, .cells #[v0_0, (.int .i64 r1), (GV r2)] 85 (0, 0))], cz0] ∧ OwnS (Kd.int .i64) M' vz0 r0 cz0
theorem f_wire_Reader_Row_ok (a0 : T_wire_Reader) (a1 : Int) (a2 : Int) (M : IM) (v0_0 : Value) (g0 : Nat) (h0_0 : RS (Kd.int .u8) M v0_0 a0.b) (res : ((List Int) × Int × GErr)) (h : f_wire_Reader_Row a0 a1 a2 = some res) :
    Tri Tryz.prog 86 #[(pt g0 0), (.int .i64 a1), (.int .i64 a2)] M [[(g0, .cells #[v0_0, (.int .i64 a0.at_), (GV a0.err)] 85 (0, 0))]] (f_wire_Reader_Row_post a0 a1 a2 v0_0 g0 res) := by
 unfold f_wire_Reader_Row at h
 refine Tri.enter (fn := Tryz.f86) Tryz.func86 rfl (Nat.le_of_ble_eq_true rfl) ?_
 intro F ρ hρ
 refine Sr ?_
 refine Pa (.slice none 0 0) rfl rfl ?_
 refine Ns ?_
 refine Pm (pt g0 0) (hρ 0) rfl ?_
 refine Pm (.int .i64 a1) (hρ 1) rfl ?_
 obtain ⟨⟨r21, r22, r23⟩, hr24, h⟩ := bnd h
 refine WL.eff (EO.call1 co44 (f_wire_Reader_Int_ok a0 a1 _ _ _ h0_0 (r21, r22, r23) hr24) (args2 rfl rfl)) rfl ?_
 rintro _ M25 _ hle26 ⟨_, ⟨rfl, rfl⟩, rfl⟩
 have h0_0 := h0_0.mono hle26
 refine WL.a1 ?_
 refine Pa (.int .i64 r21) rfl rfl ?_
 refine Ns ?_
 refine Pa (.slice none 0 0) rfl rfl ?_
 refine Nt ?_
 obtain ⟨j31, hj31, h⟩ := bnd h
 refine WC.joinF (fun (p_ : ((List Int) × Int × GErr)) ρ' M' H' => match p_ with | (x28, x29, x30) => ∃ vx28 cx28, M25.le M' ∧ [(g0, .cells #[v0_0, (.int .i64 x29), (GV x30)] 85 (0, 0))] :: cx28 :: F = H' ∧ ρ' 0 = (pt g0 0) ∧ ρ' 8 = vx28 ∧ OwnS (Kd.int .i64) M' vx28 x28 cx28) j31 ?_ ?_
 have h331 := h
 have h := hj31
 refine Sr ?_
 refine Pa (.int .i64 0) rfl rfl ?_
 refine Nt ?_
 refine WC.block ?_
 refine WC.e0 ?_
 refine WC.f1 ?_
 obtain ⟨e32, he32, hK32⟩ := bnd h
 clear h
 refine WC.loop he32 (fun (p_ : ((List Int) × Int × Int × GErr)) ρ' M' H' => match p_ with | (x33, x34, x35, x36) => ∃ vx33 cx33, M25.le M' ∧ [(g0, .cells #[v0_0, (.int .i64 x35), (GV x36)] 85 (0, 0))] :: cx33 :: F = H' ∧ ρ' 0 = (pt g0 0) ∧ ρ' 2 = (.int .i64 a2) ∧ ρ' 7 = (.int .i64 r21) ∧ ρ' 8 = vx33 ∧ ρ' 9 = (.int .i64 x34) ∧ OwnS (Kd.int .i64) M' vx33 x33 cx33) ?_ ?_
 exact ⟨(.slice none 0 0), [], (IM.le.refl _), rfl, (hρ 0), (hρ 2), rfl, rfl, rfl, (OwnS.nil _ _)⟩
 rintro ⟨x33, x34, x35, x36⟩ o32 ρ32 M32 H32 h ⟨vx33, cx33, hle32, rfl, hs32_0, hs32_2, hs32_7, hs32_8, hs32_9, hx33⟩
 unfold f_wire_Reader_Row_l0 at h
 have h0_0 := h0_0.mono hle32
 refine WC.seq ?_
 obtain ⟨x40, hj41, h⟩ := bnd h
 refine WC.joinF (fun (x40 : Bool) ρ' M' H' => M32.le M' ∧ [(g0, .cells #[v0_0, (.int .i64 x35), (GV x36)] 85 (0, 0))] :: cx33 :: F = H' ∧ ρ' 0 = (pt g0 0) ∧ ρ' 2 = (.int .i64 a2) ∧ ρ' 7 = (.int .i64 r21) ∧ ρ' 8 = vx33 ∧ ρ' 9 = (.int .i64 x34) ∧ ρ' 22 = (.bool x40)) x40 ?_ ?_
 have h341 := h
 have h := hj41
 refine WC.region ?_
 refine Pm (.int .i64 x34) hs32_9 rfl ?_
 refine Pm (.int .i64 r21) hs32_7 rfl ?_
 refine Pu (.bool (decide (x34 < r21))) (PO.lss rfl rfl) rfl ?_
 refine Pm (.bool (decide (x34 < r21))) rfl rfl ?_
 rcases Bool.eq_false_or_eq_true (decide (x34 < r21)) with hb42 | hb42
 have h := ite_t hb42 h
 refine On 16 rfl rfl hb42 ?_
 refine Pm (pt g0 0) hs32_0 rfl ?_
 refine On 16 rfl rfl hb42 ?_
 refine Pu (pt g0 0) (PO.nilCheck rfl) rfl ?_
 refine On 16 rfl rfl hb42 ?_
 refine Pu (pt g0 2) (PO.fieldAddr fo85_2 rfl rfl) rfl ?_
 refine On 16 rfl rfl hb42 ?_
 refine Pu (GV x36) (PO.loadB 0 pl29 rfl rfl rfl) rfl ?_
 refine On 16 rfl rfl hb42 ?_
 refine Pu (.bool x36.isNil) (PO.errNil Tryz.underlying29 rfl) rfl ?_
 refine Pu (.bool x36.isNil) (PO.pickT rfl hb42 rfl) rfl ?_
 refine WL.nil ?_
 obtain rfl := Option.some.inj h
 refine WQ.thenJ ?_
 exact ⟨(IM.le.refl _), rfl, hs32_0, hs32_2, hs32_7, hs32_8, hs32_9, rfl⟩
 have h := ite_f hb42 h
 iterate 5 refine Of 16 rfl rfl hb42 rfl ?_
 refine Pu (.bool false) (PO.pickF rfl hb42 rfl) rfl ?_
 refine WL.nil ?_
 obtain rfl := Option.some.inj h
 refine WQ.thenJ ?_
 exact ⟨(IM.le.refl _), rfl, hs32_0, hs32_2, hs32_7, hs32_8, hs32_9, rfl⟩
 rintro ρ41 M41 H41 ⟨hle41, rfl, hs41_0, hs41_2, hs41_7, hs41_8, hs41_9, hs41_22⟩
 have hx33 := hx33.mono hle41
 have h0_0 := h0_0.mono hle41
 refine WC.cond (b := x40) hs41_22 (fun hb43 => ?_) (fun hb43 => ?_)
 have h := ite_t hb43 h
 refine WC.skip ?_
 refine WQ.thenC ?_
 refine WC.seq ?_
 refine WC.block ?_
 refine WC.region ?_
 refine Pm vx33 hs41_8 rfl ?_
 refine Pm (pt g0 0) hs41_0 rfl ?_
 refine Pm (.int .i64 a2) hs41_2 rfl ?_
 obtain ⟨⟨r44, r45, r46⟩, hr47, h⟩ := bnd h
 refine WL.eff (EO.call1 co44 (f_wire_Reader_Int_ok (⟨a0.b, x35, x36⟩ : T_wire_Reader) a2 _ _ _ h0_0 (r44, r45, r46) hr47) (args2 rfl rfl)) rfl ?_
 rintro _ M48 _ hle49 ⟨_, ⟨rfl, rfl⟩, rfl⟩
 have hx33 := hx33.mono hle49
 have h0_0 := h0_0.mono hle49
 refine WL.a1 ?_
 refine WL.eff (EO.buildSliceL (cl := [(.int .i64 r44)]) Tryz.underlying65 iz3 rfl (Parts.cons (congrArg Value.cells (show ev _ _ = (.int .i64 r44) from rfl)) Parts.nil) rfl) rfl ?_
 rintro _ _ _ - ⟨rfl, g51, rfl, rfl⟩
 have h53 : OwnS (Kd.int .i64) M48 (.slice (some ⟨g51, 0, none⟩) 1 1) [r44] [(g51, .cells #[(.int .i64 r44)] 3 (0, 0))] := OwnS.rows (css := [[(.int .i64 r44)]]) (Rows.cons rfl Rows.nil) rfl rfl
 obtain ⟨hg57, h⟩ := grd_i h
 refine WL.f2 ?_
 refine WL.eff (EO.append (dd := (Kd.int .i64)) (xs := x33) (ys := [r44]) Tryz.underlying65 Tryz.underlying65 in3 rfl (appB (by decide) hg57) (by decide) rfl rfl hx33 (h53.src 1 rfl)) rfl ?_
 rintro v56 _ _ - ⟨rfl, c54, rfl, h55⟩
 refine Pa v56 rfl rfl ?_
 refine WL.nil ?_
 refine WQ.blockN ?_
 refine WQ.thenC ?_
 refine WC.region ?_
 refine Pm (.int .i64 x34) hs41_9 rfl ?_
 refine Pu (.int .i64 (IntKind.i64.wrap (x34 + 1))) (PO.add rfl rfl) rfl ?_
 refine Pa (.int .i64 (IntKind.i64.wrap (x34 + 1))) rfl rfl ?_
 refine WL.nil ?_
 refine WQ.f1 ?_
 refine WQ.drop ?_
 refine WQ.f1 ?_
 refine WQ.again (x33 ++ [r44], IntKind.i64.wrap (x34 + 1), r45, r46) (Option.some.inj h).symm ?_
 exact ⟨v56, c54, ((hle32.trans hle41).trans hle49), rfl, hs41_0, hs41_2, hs41_7, rfl, rfl, h55⟩
 have h := ite_f hb43 h
 refine WC.exit ?_
 refine WQ.thenE ?_
 refine WQ.leaveE (x33, x35, x36) (Option.some.inj h).symm (fun heq32 => ?_)
 subst heq32
 have h := hK32
 refine WQ.blockH ?_
 obtain rfl := Option.some.inj h
 refine WQ.thenJ ?_
 exact ⟨vx33, cx33, (hle32.trans hle41), rfl, hs41_0, hs41_8, hx33⟩
 obtain ⟨x28, x29, x30⟩ := j31
 rintro ρ31 M31 H31 ⟨vx28, cx28, hle31, rfl, hs31_0, hs31_8, hx28⟩
 have h0_0 := h0_0.mono hle31
 refine WC.seq ?_
 refine Sr ?_
 refine Pm (pt g0 0) hs31_0 rfl ?_
 refine Pu (pt g0 0) (PO.nilCheck rfl) rfl ?_
 refine Pu (pt g0 2) (PO.fieldAddr fo85_2 rfl rfl) rfl ?_
 refine Pu (GV x30) (PO.loadB 0 pl29 rfl rfl rfl) rfl ?_
 refine Pu (.bool (!x30.isNil)) (PO.errNotNil Tryz.underlying29 rfl) rfl ?_
 refine Nt ?_
 refine WC.cond (b := !x30.isNil) rfl (fun hb59 => ?_) (fun hb59 => ?_)
 have h := ite_t hb59 h
 refine Sr ?_
 refine Pa (.slice none 0 0) rfl rfl ?_
 refine Nt ?_
 refine WC.ret ?_
 refine WQ.thenR ?_
 refine WQ.e0 ?_
 refine WQ.f2 ?_
 refine WQ.drop ?_
 refine WQ.f1 ?_
 exact WQ.returnsF h [[(g0, .cells #[v0_0, (.int .i64 x29), (GV x30)] 85 (0, 0))], []] rfl (results1 rfl rfl) (hle26.trans hle31) ⟨(.slice none 0 0), [], rfl, rfl, (OwnS.nil _ _)⟩
 have h := ite_f hb59 h
 refine WC.skip ?_
 refine WQ.thenC ?_
 refine Sr ?_
 refine Pm vx28 hs31_8 rfl ?_
 refine Pa vx28 rfl rfl ?_
 refine Nt ?_
 refine WC.ret ?_
 exact WQ.returnsF h [[(g0, .cells #[v0_0, (.int .i64 x29), (GV x30)] 85 (0, 0))], cx28] rfl (results1 rfl rfl) (hle26.trans hle31) ⟨vx28, cx28, rfl, rfl, hx28⟩

noncomputable def f_record_Read_3 (a0 : Int) (a1 : Int) (a2q : T_wire_Reader) : Option ((List Int) × Int × GErr) :=
  (if (decide ((andI .i64 a1 a0) = (0 : Int))) = true then (some ([], a2q.at_, a2q.err)) else ((f_wire_Reader_Row a2q (7 : Int) (64 : Int)).bind fun (r23, r24, r25) => (some (r23, r24, r25))))
def f_record_Read_3_post (a0 : Int) (a1 : Int) (a2q : T_wire_Reader) (v2q_0 : Value) (g1 g2 g2q : Nat) : ((List Int) × Int × GErr) → Value → IM → HL → Prop :=
  fun (p_ : ((List Int) × Int × GErr)) (v : Value) (M' : IM) (H' : HL) => match p_ with | (r0, r1, r2) => ∃ vz0 cz0, vz0 = v ∧ H' = [[(g1, .cells #[(.int .i64 a1)] 3 (0, 0))], [(g2q, .cells #[v2q_0, (.int .i64 r1), (GV r2)] 85 (0, 0))], [(g2, .cells #[(.pointer (some ⟨g2q, 0, none⟩))] 53 (0, 0))], cz0] ∧ OwnS (Kd.int .i64) M' vz0 r0 cz0
theorem f_record_Read_3_ok (a0 : Int) (a1 : Int) (a2q : T_wire_Reader) (M : IM) (v2q_0 : Value) (g1 g2 g2q : Nat) (h2q_0 : RS (Kd.int .u8) M v2q_0 a2q.b) (res : ((List Int) × Int × GErr)) (h : f_record_Read_3 a0 a1 a2q = some res) :
    Tri Tryz.prog 85 #[(.int .i64 a0), (pt g1 0), (pt g2 0)] M [[(g1, .cells #[(.int .i64 a1)] 3 (0, 0))], [(g2q, .cells #[v2q_0, (.int .i64 a2q.at_), (GV a2q.err)] 85 (0, 0))], [(g2, .cells #[(pt g2q 0)] 53 (0, 0))]] (f_record_Read_3_post a0 a1 a2q v2q_0 g1 g2 g2q res) := by
 unfold f_record_Read_3 at h
 refine Tri.enter (fn := Tryz.f85) Tryz.func85 rfl (Nat.le_of_ble_eq_true rfl) ?_
 intro F ρ hρ
 refine Sr ?_
 refine Pa (.slice none 0 0) rfl rfl ?_
 refine Nt ?_
 refine WC.seq ?_
 refine Sr ?_
 refine Pu (.int .i64 a1) (PO.loadB 0 pl3 (hρ 1) rfl rfl) rfl ?_
 refine Pm (.int .i64 a0) (hρ 0) rfl ?_
 refine Pu (.int .i64 (andI .i64 a1 a0)) (PO.and rfl rfl) rfl ?_
 refine Pu (.bool (decide ((andI .i64 a1 a0) = 0))) (PO.eql rfl rfl) rfl ?_
 refine Nt ?_
 refine WC.cond (b := decide ((andI .i64 a1 a0) = 0)) rfl (fun hb21 => ?_) (fun hb21 => ?_)
 have h := ite_t hb21 h
 refine Sr ?_
 refine Pa (.slice none 0 0) rfl rfl ?_
 refine Nt ?_
 refine WC.ret ?_
 refine WQ.thenR ?_
 refine WQ.e0 ?_
 refine WQ.f3 ?_
 refine WQ.f3 ?_
 refine WQ.f3 ?_
 exact WQ.returnsF h [[(g1, .cells #[(.int .i64 a1)] 3 (0, 0))], [(g2q, .cells #[v2q_0, (.int .i64 a2q.at_), (GV a2q.err)] 85 (0, 0))], [(g2, .cells #[(pt g2q 0)] 53 (0, 0))], []] rfl (results1 rfl rfl) (IM.le.refl _) ⟨(.slice none 0 0), [], rfl, rfl, (OwnS.nil _ _)⟩
 have h := ite_f hb21 h
 refine WC.skip ?_
 refine WQ.thenC ?_
 refine Sr ?_
 refine Pu (pt g2q 0) (PO.loadB 2 pl53 (hρ 2) rfl rfl) rfl ?_
 obtain ⟨⟨r23, r24, r25⟩, hr26, h⟩ := bnd h
 refine WL.f1 ?_
 refine WL.eff (EO.call1 co86 (f_wire_Reader_Row_ok a2q (7 : Int) (64 : Int) _ _ _ h2q_0 (r23, r24, r25) hr26) (args3 rfl rfl rfl)) rfl ?_
 rintro _ M27 _ hle28 ⟨_, ⟨vq29, cq29, rfl, rfl, hq29⟩, rfl⟩
 have h2q_0 := h2q_0.mono hle28
 refine WL.a2 ?_
 refine Pa vq29 rfl rfl ?_
 refine Nt ?_
 refine WC.ret ?_
 refine WQ.f1 ?_
 refine WQ.f3 ?_
 refine WQ.f2 ?_
 refine WQ.f3 ?_
 exact WQ.returnsF h [[(g1, .cells #[(.int .i64 a1)] 3 (0, 0))], [(g2q, .cells #[v2q_0, (.int .i64 r24), (GV r25)] 85 (0, 0))], [(g2, .cells #[(pt g2q 0)] 53 (0, 0))], cq29] rfl (results1 rfl rfl) hle28 ⟨vq29, cq29, rfl, rfl, hq29⟩

noncomputable def f_api_Fault_Unwrap (a0 : T_api_Fault) : Option GErr :=
  (some a0.Err)
def f_api_Fault_Unwrap_post (a0 : T_api_Fault) : GErr → Value → IM → HL → Prop :=
  fun (r0 : GErr) (v : Value) (M' : IM) (H' : HL) => (GV r0) = v ∧ H' = []
theorem f_api_Fault_Unwrap_ok (a0 : T_api_Fault) (M : IM) (res : GErr) (h : f_api_Fault_Unwrap a0 = some res) :
    Tri Tryz.prog 142 #[(a94_ a0)] M [] (f_api_Fault_Unwrap_post a0 res) := by
 unfold f_api_Fault_Unwrap at h
 refine Tri.enter (fn := Tryz.f142) Tryz.func142 rfl (Nat.le_of_ble_eq_true rfl) ?_
 intro F ρ hρ
 refine Sr ?_
 refine WL.eff (EO.box (cs := (l94 a0).toArray) (congrArg Value.cells (asE (a94_ a0) (hρ 0)))) rfl ?_
 rintro _ _ _ - ⟨rfl, g21, rfl, rfl⟩
 refine Pa (GV GErr.nil) rfl rfl ?_
 refine Ns ?_
 refine Pu (pt g21 2) (PO.fieldAddr fo94_2 rfl rfl) rfl ?_
 refine Pu (GV a0.Err) (PO.loadB 0 pl29 rfl rfl rfl) rfl ?_
 refine Pa (GV a0.Err) rfl rfl ?_
 refine Nt ?_
 refine WC.ret ?_
 refine WQ.drop ?_
 exact WQ.returnsF h [] rfl (results1 rfl rfl) (IM.le.refl _) ⟨rfl, rfl⟩

noncomputable def f_errors_as_code_l0 (a1 : Int) (s_ : GErr) : Option (GErr ⊕ (Bool × Int)) :=
  match s_ with
  | x23 =>
    (match x23 with | .nil => none | .code n26 => (some (Sum.inr (true, n26))) | .fault o27 a28 e29 => ((f_api_Fault_Unwrap (⟨o27, a28, e29⟩ : T_api_Fault)).bind fun (r32 : GErr) => (if r32.isNil = true then (some (Sum.inr (false, a1))) else (some (Sum.inl r32)))) | .other b30 => (some (Sum.inr (false, a1))))
noncomputable def f_errors_as_code (a0 : GErr) (a1 : Int) : Option (Bool × Int) :=
  ((iter (f_errors_as_code_l0 a1) a0).bind (fun (x24, x25) => (some (x24, x25))))
def f_errors_as_code_post (a0 : GErr) (a1 : Int) (g1 g2 : Nat) : (Bool × Int) → Value → IM → HL → Prop :=
  fun (p_ : (Bool × Int)) (v : Value) (M' : IM) (H' : HL) => match p_ with | (r0, r1) => (.bool r0) = v ∧ H' = [[(g1, .cells #[(.int .i64 r1)] 31 (0, 0))], [(g2, .cells #[(.pointer (some ⟨g1, 0, none⟩))] 91 (0, 0))]]
theorem f_errors_as_code_ok (a0 : GErr) (a1 : Int) (M : IM) (g1 g2 : Nat) (res : (Bool × Int)) (h : f_errors_as_code a0 a1 = some res) :
    Tri Tryz.prog 95 #[(GV a0), (.iface 91 (pt g1 0)), (.agg #[(pt 1 91), (pt g2 0), (.int .u64 150)]), (.iface 167 (.agg #[.pointer (some ⟨1, 31, none⟩)]))] M [[(g1, .cells #[(.int .i64 a1)] 31 (0, 0))], [(g2, .cells #[(pt g1 0)] 91 (0, 0))]] (f_errors_as_code_post a0 a1 g1 g2 res) := by
 unfold f_errors_as_code at h
 refine Tri.enter (fn := Tryz.f95) Tryz.func95 rfl (Nat.le_of_ble_eq_true rfl) ?_
 intro F ρ hρ
 refine Sr ?_
 refine WL.eff (EO.box (cs := #[(pt 1 91), (pt g2 0), (.int .u64 150)]) (congrArg Value.cells (asE (.agg #[(pt 1 91), (pt g2 0), (.int .u64 150)]) (hρ 2)))) rfl ?_
 rintro _ _ _ - ⟨rfl, g21, rfl, rfl⟩
 refine Pa (.bool false) rfl rfl ?_
 refine Nt ?_
 refine WC.block ?_
 obtain ⟨e22, he22, hK22⟩ := bnd h
 clear h
 refine WC.loop he22 (fun (x23 : GErr) ρ' M' H' => M.le M' ∧ [(g21, .cells #[(pt 1 91), (pt g2 0), (.int .u64 150)] 139 (0, 0))] :: [(g1, .cells #[(.int .i64 a1)] 31 (0, 0))] :: [(g2, .cells #[(pt g1 0)] 91 (0, 0))] :: F = H' ∧ ρ' 0 = (GV x23) ∧ ρ' 1 = (.iface 91 (pt g1 0)) ∧ ρ' 3 = (.iface 167 (.agg #[.pointer (some ⟨1, 31, none⟩)])) ∧ ρ' 6 = (pt g21 0)) ?_ ?_
 exact ⟨(IM.le.refl _), rfl, (hρ 0), (hρ 1), (hρ 3), rfl⟩
 rintro x23 o22 ρ22 M22 H22 h ⟨hle22, rfl, hs22_0, hs22_1, hs22_3, hs22_6⟩
 unfold f_errors_as_code_l0 at h
 refine WC.block ?_
 refine WC.seq ?_
 refine Sr ?_
 refine Pm (GV x23) hs22_0 rfl ?_
 rcases x23 with _ | n26 | ⟨o27, a28, e29⟩ | b30
 refine WL.eff (EO.extP xt96 (args1 (show ev _ _ = .nilIface from rfl)) tyNil) rfl ?_
 rintro _ _ _ - ⟨rfl, rfl, rfl⟩
 refine Pm (.iface 167 (.agg #[.pointer (some ⟨1, 31, none⟩)])) hs22_3 rfl ?_
 exact nones h
 refine WL.eff (EO.extP xt96 (args1 (show ev _ _ = (.iface 31 (.int .i64 n26)) from rfl)) (ty31 _)) rfl ?_
 rintro _ _ _ - ⟨rfl, rfl, rfl⟩
 refine Pm (.iface 167 (.agg #[.pointer (some ⟨1, 31, none⟩)])) hs22_3 rfl ?_
 refine WL.eff (EO.invE (show ev _ _ = (.iface 167 (.agg #[.pointer (some ⟨1, 31, none⟩)])) from rfl) (mm_AssignableTo (pt 1 31)) xt147 (inv1 rfl) mr_AssignableTo_31_31) rfl ?_
 rintro _ _ _ - ⟨rfl, rfl, rfl⟩
 refine Nt ?_
 refine WC.condT (b := true) rfl rfl ?_
 refine Sr ?_
 refine Pu (.agg #[(pt 1 91), (pt g2 0), (.int .u64 150)]) (PO.loadBA (cs := [(pt 1 91), (pt g2 0), (.int .u64 150)]) 0 ag139 sz139 hs22_6 rfl rfl) rfl ?_
 refine WL.eff (EO.rvElem (r := fun p => .agg #[(pt 1 31), .pointer (some p), .int .u64 386]) 2 xt116 pp91_150 rfl pl91 el91 mk31 (args1 (show ev _ _ = (.agg #[(pt 1 91), (pt g2 0), (.int .u64 150)]) from rfl)) rfl) rfl ?_
 rintro _ _ _ - ⟨rfl, rfl, rfl⟩
 refine Pm (GV (GErr.code n26)) hs22_0 rfl ?_
 refine WL.eff (EO.valueOf xt92 (args1 (show ev _ _ = (.iface 31 (.int .i64 n26)) from rfl)) (vo31 n26)) rfl ?_
 rintro _ _ _ - ⟨rfl, g31, rfl, rfl⟩
 refine WL.f2 ?_
 refine WL.eff (EO.rvSet (arr := [(.int .i64 a1)]) (vl := [(.int .i64 n26)]) (v := (.int .i64 n26)) xt117 pp31_386 pp31_130 rfl da31 (args2 (show ev _ _ = (.agg #[(pt 1 31), (pt g1 0), (.int .u64 386)]) from rfl) (show ev _ _ = (.agg #[(pt 1 31), (pt g31 0), (.int .u64 130)]) from rfl)) (fun _ hs => run_loadPlain pl31 (hs.cellC 1 rfl (chunkCell_lit.trans rfl))) rfl sz31 rfl (onesOf (Ones.cons rfl Ones.nil))) rfl ?_
 rintro _ _ _ - ⟨rfl, rfl, rfl⟩
 refine Ns ?_
 refine Pa (.bool true) rfl rfl ?_
 refine Nt ?_
 refine WC.ret ?_
 refine WQ.thenR ?_
 refine WQ.blockR ?_
 refine WQ.leaveR (true, n26) (Option.some.inj h).symm (fun heq22 => ?_)
 subst heq22
 have h := hK22
 refine WQ.blockR ?_
 refine WQ.f1 ?_
 refine WQ.drop ?_
 refine WQ.f1 ?_
 refine WQ.drop ?_
 exact WQ.returnsF h [[(g1, .cells #[(.int .i64 n26)] 31 (0, 0))], [(g2, .cells #[(pt g1 0)] 91 (0, 0))]] rfl (results1 rfl rfl) hle22 ⟨rfl, rfl⟩
 refine WL.eff (EO.extP xt96 (args1 (show ev _ _ = (.iface 94 (.agg #[.string o27, .int .i64 a28, GV e29])) from rfl)) (ty94 _)) rfl ?_
 rintro _ _ _ - ⟨rfl, rfl, rfl⟩
 refine Pm (.iface 167 (.agg #[.pointer (some ⟨1, 31, none⟩)])) hs22_3 rfl ?_
 refine WL.eff (EO.invE (show ev _ _ = (.iface 167 (.agg #[.pointer (some ⟨1, 94, none⟩)])) from rfl) (mm_AssignableTo (pt 1 94)) xt147 (inv1 rfl) mr_AssignableTo_94_31) rfl ?_
 rintro _ _ _ - ⟨rfl, rfl, rfl⟩
 refine Nt ?_
 refine WC.condF (b := false) rfl rfl ?_
 refine WC.skip ?_
 refine WQ.thenC ?_
 refine WC.seq ?_
 refine Sr ?_
 refine Pm (GV (GErr.fault o27 a28 e29)) hs22_0 rfl ?_
 refine Pu (.tuple #[.nilIface, (.bool false)]) (PO.asserts (show ev _ _ = (.iface 94 (.agg #[.string o27, .int .i64 a28, GV e29])) from rfl) (la94_171 _ _)) rfl ?_
 refine Pm (.tuple #[.nilIface, (.bool false)]) rfl rfl ?_
 refine Pu .nilIface (PO.extract rfl rfl) rfl ?_
 refine Pu (.bool false) (PO.extract rfl rfl) rfl ?_
 refine Pa .nilIface rfl rfl ?_
 refine Pa (.bool false) rfl rfl ?_
 refine Ns ?_
 refine Pm (.bool false) rfl rfl ?_
 refine Pm (.bool false) rfl rfl ?_
 iterate 3 refine Of 31 rfl rfl rfl rfl ?_
 refine Pu (.bool false) (PO.pickF rfl rfl rfl) rfl ?_
 refine Nt ?_
 refine WC.condF (b := false) rfl rfl ?_
 refine WC.skip ?_
 refine WQ.thenC ?_
 refine Sr ?_
 refine Pm (GV (GErr.fault o27 a28 e29)) hs22_0 rfl ?_
 refine Nt ?_
 refine WC.block ?_
 refine Sr ?_
 refine Pu (.tuple #[(GV (GErr.fault o27 a28 e29)), (.bool true)]) (PO.asserts (show ev _ _ = (.iface 94 (.agg #[.string o27, .int .i64 a28, GV e29])) from rfl) (ha94_174 _ _)) rfl ?_
 refine Pu (.bool true) (PO.extract rfl rfl) rfl ?_
 refine Pu (GV (GErr.fault o27 a28 e29)) (PO.extract rfl rfl) rfl ?_
 refine Nt ?_
 refine WC.condT (b := true) rfl rfl ?_
 refine Sr ?_
 refine Pa (GV (GErr.fault o27 a28 e29)) rfl rfl ?_
 refine Ns ?_
 refine Pm (GV (GErr.fault o27 a28 e29)) rfl rfl ?_
 obtain ⟨r32, hr33, h⟩ := bnd h
 refine WL.eff (EO.invT (show ev _ _ = (.iface 94 (.agg #[.string o27, .int .i64 a28, GV e29])) from rfl) (me94_Unwrap _) co142 inv0 (f_api_Fault_Unwrap_ok (⟨o27, a28, e29⟩ : T_api_Fault) _ r32 hr33)) rfl ?_
 rintro _ M34 _ hle35 ⟨_, ⟨rfl, rfl⟩, rfl⟩
 refine WL.a0 ?_
 refine Pa (GV r32) rfl rfl ?_
 refine Ns ?_
 refine Pm (GV r32) rfl rfl ?_
 refine Pu (.bool r32.isNil) (PO.errNil Tryz.underlying29 rfl) rfl ?_
 refine Nt ?_
 refine WC.cond (b := r32.isNil) rfl (fun hb37 => ?_) (fun hb37 => ?_)
 have h := ite_t hb37 h
 refine Sr ?_
 refine Pa (.bool false) rfl rfl ?_
 refine Nt ?_
 refine WC.ret ?_
 refine WQ.blockR ?_
 refine WQ.blockR ?_
 refine WQ.leaveR (false, a1) (Option.some.inj h).symm (fun heq22 => ?_)
 subst heq22
 have h := hK22
 refine WQ.blockR ?_
 refine WQ.drop ?_
 exact WQ.returnsF h [[(g1, .cells #[(.int .i64 a1)] 31 (0, 0))], [(g2, .cells #[(pt g1 0)] 91 (0, 0))]] rfl (results1 rfl rfl) (hle22.trans hle35) ⟨rfl, rfl⟩
 have h := ite_f hb37 h
 refine WC.skip ?_
 refine WQ.blockN ?_
 refine WQ.blockN ?_
 refine WQ.again r32 (Option.some.inj h).symm ?_
 exact ⟨(hle22.trans hle35), rfl, rfl, hs22_1, hs22_3, hs22_6⟩
 refine WL.eff (EO.extP xt96 (args1 (show ev _ _ = (.iface 0 (.pointer (some b30))) from rfl)) (ty0 _)) rfl ?_
 rintro _ _ _ - ⟨rfl, rfl, rfl⟩
 refine Pm (.iface 167 (.agg #[.pointer (some ⟨1, 31, none⟩)])) hs22_3 rfl ?_
 refine WL.eff (EO.invE (show ev _ _ = (.iface 167 (.agg #[.pointer (some ⟨1, 0, none⟩)])) from rfl) (mm_AssignableTo (pt 1 0)) xt147 (inv1 rfl) mr_AssignableTo_0_31) rfl ?_
 rintro _ _ _ - ⟨rfl, rfl, rfl⟩
 refine Nt ?_
 refine WC.condF (b := false) rfl rfl ?_
 refine WC.skip ?_
 refine WQ.thenC ?_
 refine WC.seq ?_
 refine Sr ?_
 refine Pm (GV (GErr.other b30)) hs22_0 rfl ?_
 refine Pu (.tuple #[.nilIface, (.bool false)]) (PO.asserts (show ev _ _ = (.iface 0 (.pointer (some b30))) from rfl) (la0_171 _ _)) rfl ?_
 refine Pm (.tuple #[.nilIface, (.bool false)]) rfl rfl ?_
 refine Pu .nilIface (PO.extract rfl rfl) rfl ?_
 refine Pu (.bool false) (PO.extract rfl rfl) rfl ?_
 refine Pa .nilIface rfl rfl ?_
 refine Pa (.bool false) rfl rfl ?_
 refine Ns ?_
 refine Pm (.bool false) rfl rfl ?_
 refine Pm (.bool false) rfl rfl ?_
 iterate 3 refine Of 31 rfl rfl rfl rfl ?_
 refine Pu (.bool false) (PO.pickF rfl rfl rfl) rfl ?_
 refine Nt ?_
 refine WC.condF (b := false) rfl rfl ?_
 refine WC.skip ?_
 refine WQ.thenC ?_
 refine Sr ?_
 refine Pm (GV (GErr.other b30)) hs22_0 rfl ?_
 refine Nt ?_
 refine WC.block ?_
 refine Sr ?_
 refine Pu (.tuple #[.nilIface, (.bool false)]) (PO.asserts (show ev _ _ = (.iface 0 (.pointer (some b30))) from rfl) (la0_174 _ _)) rfl ?_
 refine Pu (.bool false) (PO.extract rfl rfl) rfl ?_
 refine Pu .nilIface (PO.extract rfl rfl) rfl ?_
 refine Nt ?_
 refine WC.condF (b := false) rfl rfl ?_
 refine Sr ?_
 refine Pu (.tuple #[.nilIface, (.bool false)]) (PO.asserts (show ev _ _ = (.iface 0 (.pointer (some b30))) from rfl) (la0_175 _ _)) rfl ?_
 refine Pu (.bool false) (PO.extract rfl rfl) rfl ?_
 refine Pu .nilIface (PO.extract rfl rfl) rfl ?_
 refine Nt ?_
 refine WC.condF (b := false) rfl rfl ?_
 refine Sr ?_
 refine Pa (GV (GErr.other b30)) rfl rfl ?_
 refine Ns ?_
 refine Pa (.bool false) rfl rfl ?_
 refine Nt ?_
 refine WC.ret ?_
 refine WQ.blockR ?_
 refine WQ.blockR ?_
 refine WQ.leaveR (false, a1) (Option.some.inj h).symm (fun heq22 => ?_)
 subst heq22
 have h := hK22
 refine WQ.blockR ?_
 refine WQ.drop ?_
 exact WQ.returnsF h [[(g1, .cells #[(.int .i64 a1)] 31 (0, 0))], [(g2, .cells #[(pt g1 0)] 91 (0, 0))]] rfl (results1 rfl rfl) hle22 ⟨rfl, rfl⟩

noncomputable def f_errors_As_code (a0 : GErr) (a1 : Int) : Option (Bool × Int) :=
  (if a0.isNil = true then (some (false, a1)) else ((f_errors_as_code a0 a1).bind fun (r24, r25) => (some (r24, r25))))
def f_errors_As_code_post (a0 : GErr) (a1 : Int) (g1 : Nat) : (Bool × Int) → Value → IM → HL → Prop :=
  fun (p_ : (Bool × Int)) (v : Value) (M' : IM) (H' : HL) => match p_ with | (r0, r1) => (.bool r0) = v ∧ H' = [[(g1, .cells #[(.int .i64 r1)] 31 (0, 0))]]
theorem f_errors_As_code_ok (a0 : GErr) (a1 : Int) (M : IM) (g1 : Nat) (hE : Env M) (res : (Bool × Int)) (h : f_errors_As_code a0 a1 = some res) :
    Tri Tryz.prog 50 #[(GV a0), (.iface 91 (pt g1 0))] M [[(g1, .cells #[(.int .i64 a1)] 31 (0, 0))]] (f_errors_As_code_post a0 a1 g1 res) := by
 unfold f_errors_As_code at h
 refine Tri.enter (fn := Tryz.f50) Tryz.func50 rfl (Nat.le_of_ble_eq_true rfl) ?_
 intro F ρ hρ
 refine Sr ?_
 refine Pa (.bool false) rfl rfl ?_
 refine Nt ?_
 refine WC.seq ?_
 refine Sr ?_
 refine Pm (GV a0) (hρ 0) rfl ?_
 refine Pu (.bool a0.isNil) (PO.errNil Tryz.underlying29 rfl) rfl ?_
 refine Nt ?_
 refine WC.cond (b := a0.isNil) rfl (fun hb21 => ?_) (fun hb21 => ?_)
 have h := ite_t hb21 h
 refine Sr ?_
 refine Pa (.bool false) rfl rfl ?_
 refine Nt ?_
 refine WC.ret ?_
 refine WQ.thenR ?_
 exact WQ.returnsF h [[(g1, .cells #[(.int .i64 a1)] 31 (0, 0))]] rfl (results1 rfl rfl) (IM.le.refl _) ⟨rfl, rfl⟩
 have h := ite_f hb21 h
 refine WC.skip ?_
 refine WQ.thenC ?_
 refine WC.seq ?_
 refine Sr ?_
 refine Pm (.iface 91 (pt g1 0)) (hρ 1) rfl ?_
 refine Pu (.bool false) (PO.ifcNil Tryz.underlying20 rfl) rfl ?_
 refine Nt ?_
 refine WC.condF (b := false) rfl rfl ?_
 refine WC.skip ?_
 refine WQ.thenC ?_
 refine Sr ?_
 refine Pm (.iface 91 (pt g1 0)) (hρ 1) rfl ?_
 refine WL.eff (EO.valueOf xt92 (args1 (show ev _ _ = (.iface 91 (pt g1 0)) from rfl)) (vo91 ⟨g1, 0, none⟩)) rfl ?_
 rintro _ _ _ - ⟨rfl, g22, rfl, rfl⟩
 refine WL.eff (EO.alloc ze139 rfl) rfl ?_
 rintro _ _ _ - ⟨rfl, g23, rfl, rfl⟩
 refine WL.eff (EO.storeL (v := (.agg #[(pt 1 91), (pt g22 0), (.int .u64 150)])) (vl := [(pt 1 91), (pt g22 0), (.int .u64 150)]) (arr' := [(pt 1 91), (pt g22 0), (.int .u64 150)]) rfl sz139 rfl rfl (onesOf (Ones.cons rfl (Ones.cons rfl (Ones.cons rfl Ones.nil)))) rfl rfl rfl) rfl ?_
 rintro _ _ _ - ⟨rfl, rfl⟩
 refine Ns ?_
 refine Pu (.agg #[(pt 1 91), (pt g22 0), (.int .u64 150)]) (PO.loadBA (cs := [(pt 1 91), (pt g22 0), (.int .u64 150)]) 0 ag139 sz139 rfl rfl rfl) rfl ?_
 refine WL.eff (EO.extP xt93 (args1 (show ev _ _ = (.agg #[(pt 1 91), (pt g22 0), (.int .u64 150)]) from rfl)) (vt91_150 _)) rfl ?_
 rintro _ _ _ - ⟨rfl, rfl, rfl⟩
 refine Pa (.iface 167 (.agg #[.pointer (some ⟨1, 91, none⟩)])) rfl rfl ?_
 refine Nt ?_
 refine WC.seq ?_
 refine Sr ?_
 refine Pm (.iface 167 (.agg #[.pointer (some ⟨1, 91, none⟩)])) rfl rfl ?_
 refine WL.eff (EO.invE (show ev _ _ = (.iface 167 (.agg #[.pointer (some ⟨1, 91, none⟩)])) from rfl) (mm_Kind (pt 1 91)) xt137 inv0 mr_Kind_91) rfl ?_
 rintro _ _ _ - ⟨rfl, rfl, rfl⟩
 refine Pu (.bool false) (PO.neqR rfl rfl (by decide)) rfl ?_
 refine Pm (.bool false) rfl rfl ?_
 refine On 20 rfl rfl rfl ?_
 refine Pu (.agg #[(pt 1 91), (pt g22 0), (.int .u64 150)]) (PO.loadBA (cs := [(pt 1 91), (pt g22 0), (.int .u64 150)]) 0 ag139 sz139 rfl rfl rfl) rfl ?_
 refine On 20 rfl rfl rfl ?_
 refine WL.eff (EO.isNil 1 xt94 pp91_150 rfl pl91 (args1 (show ev _ _ = (.agg #[(pt 1 91), (pt g22 0), (.int .u64 150)]) from rfl)) rfl) rfl ?_
 rintro _ _ _ - ⟨rfl, rfl, rfl⟩
 refine Pu (.bool false) (PO.pickF rfl rfl rfl) rfl ?_
 refine Nt ?_
 refine WC.condF (b := false) rfl rfl ?_
 refine WC.skip ?_
 refine WQ.thenC ?_
 refine Sr ?_
 refine Pm (.iface 167 (.agg #[.pointer (some ⟨1, 91, none⟩)])) rfl rfl ?_
 refine WL.eff (EO.invE (show ev _ _ = (.iface 167 (.agg #[.pointer (some ⟨1, 91, none⟩)])) from rfl) (mm_Elem (pt 1 91)) xt149 inv0 mr_Elem_91) rfl ?_
 rintro _ _ _ - ⟨rfl, rfl, rfl⟩
 refine Pa (.iface 167 (.agg #[.pointer (some ⟨1, 31, none⟩)])) rfl rfl ?_
 refine Nt ?_
 refine WC.seq ?_
 refine Sr ?_
 refine Pm (.iface 167 (.agg #[.pointer (some ⟨1, 31, none⟩)])) rfl rfl ?_
 refine WL.eff (EO.invE (show ev _ _ = (.iface 167 (.agg #[.pointer (some ⟨1, 31, none⟩)])) from rfl) (mm_Kind (pt 1 31)) xt137 inv0 mr_Kind_31) rfl ?_
 rintro _ _ _ - ⟨rfl, rfl, rfl⟩
 refine Pu (.bool true) (PO.neqR rfl rfl (by decide)) rfl ?_
 refine Pm (.bool true) rfl rfl ?_
 refine On 30 rfl rfl rfl ?_
 refine Pm (.iface 167 (.agg #[.pointer (some ⟨1, 31, none⟩)])) rfl rfl ?_
 refine On 30 rfl rfl rfl ?_
 refine Pu (.iface 167 (.agg #[.pointer (some ⟨1, 29, none⟩)])) (PO.loadG pl142 hE) rfl ?_
 refine On 30 rfl rfl rfl ?_
 refine WL.eff (EO.invE (show ev _ _ = (.iface 167 (.agg #[.pointer (some ⟨1, 31, none⟩)])) from rfl) (mm_Implements (pt 1 31)) xt150 (inv1 rfl) mr_Implements_31_29) rfl ?_
 rintro _ _ _ - ⟨rfl, rfl, rfl⟩
 refine On 30 rfl rfl rfl ?_
 refine Pu (.bool (!true)) (PO.not rfl) rfl ?_
 refine Pu (.bool (!true)) (PO.pickT rfl rfl rfl) rfl ?_
 refine Nt ?_
 refine WC.condF (b := !true) rfl rfl ?_
 refine WC.skip ?_
 refine WQ.thenC ?_
 refine Sr ?_
 refine Pm (GV a0) (hρ 0) rfl ?_
 refine Pm (.iface 91 (pt g1 0)) (hρ 1) rfl ?_
 refine Pu (.agg #[(pt 1 91), (pt g22 0), (.int .u64 150)]) (PO.loadBA (cs := [(pt 1 91), (pt g22 0), (.int .u64 150)]) 0 ag139 sz139 rfl rfl rfl) rfl ?_
 refine Pm (.iface 167 (.agg #[.pointer (some ⟨1, 31, none⟩)])) rfl rfl ?_
 obtain ⟨⟨r24, r25⟩, hr26, h⟩ := bnd h
 refine WL.f1 ?_
 refine WL.f2 ?_
 refine WL.eff (EO.call2 co95 (f_errors_as_code_ok a0 a1 _ _ _ (r24, r25) hr26) (args4 rfl rfl rfl rfl)) rfl ?_
 rintro _ M27 _ hle28 ⟨_, ⟨rfl, rfl⟩, rfl⟩
 have hE := hE.mono hle28
 refine WL.a2 ?_
 refine Pa (.bool r24) rfl rfl ?_
 refine Nt ?_
 refine WC.ret ?_
 refine WQ.f1 ?_
 refine WQ.drop ?_
 refine WQ.f1 ?_
 refine WQ.drop ?_
 exact WQ.returnsF h [[(g1, .cells #[(.int .i64 r25)] 31 (0, 0))]] rfl (results1 rfl rfl) hle28 ⟨rfl, rfl⟩

noncomputable def f_fault_Of (a0 : GErr) : Option Int :=
  (if a0.isNil = true then (some (0 : Int)) else ((f_errors_As_code a0 (0 : Int)).bind fun (r23, r24) => (if r23 = true then (some r24) else (some (21 : Int)))))
def f_fault_Of_post (a0 : GErr) : Int → Value → IM → HL → Prop :=
  fun (r0 : Int) (v : Value) (M' : IM) (H' : HL) => (.int .i64 r0) = v ∧ H' = []
theorem f_fault_Of_ok (a0 : GErr) (M : IM) (hE : Env M) (res : Int) (h : f_fault_Of a0 = some res) :
    Tri Tryz.prog 24 #[(GV a0)] M [] (f_fault_Of_post a0 res) := by
 unfold f_fault_Of at h
 refine Tri.enter (fn := Tryz.f24) Tryz.func24 rfl (Nat.le_of_ble_eq_true rfl) ?_
 intro F ρ hρ
 refine Sr ?_
 refine Pa (.int .i64 0) rfl rfl ?_
 refine Nt ?_
 refine WC.seq ?_
 refine Sr ?_
 refine Pm (GV a0) (hρ 0) rfl ?_
 refine Pu (.bool a0.isNil) (PO.errNil Tryz.underlying29 rfl) rfl ?_
 refine Nt ?_
 refine WC.cond (b := a0.isNil) rfl (fun hb21 => ?_) (fun hb21 => ?_)
 have h := ite_t hb21 h
 refine Sr ?_
 refine Pa (.int .i64 0) rfl rfl ?_
 refine Nt ?_
 refine WC.ret ?_
 refine WQ.thenR ?_
 exact WQ.returnsF h [] rfl (results1 rfl rfl) (IM.le.refl _) ⟨rfl, rfl⟩
 have h := ite_f hb21 h
 refine WC.skip ?_
 refine WQ.thenC ?_
 refine Sr ?_
 refine WL.eff (EO.alloc ze31 rfl) rfl ?_
 rintro _ _ _ - ⟨rfl, g22, rfl, rfl⟩
 refine Nt ?_
 refine WC.seq ?_
 refine Sr ?_
 refine Pm (GV a0) (hρ 0) rfl ?_
 refine Pu (.iface 91 (pt g22 0)) (PO.makeInterface cc91 rfl) rfl ?_
 obtain ⟨⟨r23, r24⟩, hr25, h⟩ := bnd h
 refine WL.eff (EO.call1 co50 (f_errors_As_code_ok a0 (0 : Int) _ _ hE (r23, r24) hr25) (args2 rfl rfl)) rfl ?_
 rintro _ M26 _ hle27 ⟨_, ⟨rfl, rfl⟩, rfl⟩
 have hE := hE.mono hle27
 refine WL.a1 ?_
 refine Nt ?_
 refine WC.cond (b := r23) rfl (fun hb29 => ?_) (fun hb29 => ?_)
 have h := ite_t hb29 h
 refine Sr ?_
 refine Pu (.int .i64 r24) (PO.loadB 0 pl31 rfl rfl rfl) rfl ?_
 refine Pa (.int .i64 r24) rfl rfl ?_
 refine Nt ?_
 refine WC.ret ?_
 refine WQ.thenR ?_
 refine WQ.drop ?_
 exact WQ.returnsF h [] rfl (results1 rfl rfl) hle27 ⟨rfl, rfl⟩
 have h := ite_f hb29 h
 refine WC.skip ?_
 refine WQ.thenC ?_
 refine Sr ?_
 refine Pa (.int .i64 21) rfl rfl ?_
 refine Nt ?_
 refine WC.ret ?_
 refine WQ.drop ?_
 exact WQ.returnsF h [] rfl (results1 rfl rfl) hle27 ⟨rfl, rfl⟩


end Go.Proofs.YtjiffdgidodebaaGreatDoor.G
