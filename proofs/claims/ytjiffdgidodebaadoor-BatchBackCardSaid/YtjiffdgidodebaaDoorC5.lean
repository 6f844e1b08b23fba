/- Go functions: what they come to, and that they do. Printed by a program of the session (gen). -/
import Derived.Test.YtjiffdgidodebaaDoorCF
import Derived.Test.YtjiffdgidodebaaDoorC4
import Derived.Test.YtjiffdgidodebaaDoorKShar2
import Derived.Test.YtjiffdgidodebaaDoorKConv
set_option linter.unusedVariables false
set_option linter.unusedSimpArgs false
set_option maxHeartbeats 8000000
set_option maxRecDepth 100000
namespace Go.Proofs.YtjiffdgidodebaaDoor.G
open Go Go.KK

noncomputable def f_wire_Reader_Num (a0 : T_wire_Reader) (a1 : Int) : Option (Int × Int × GErr) :=
  (if (!a0.err.isNil) = true then (some ((0 : Int), a0.at_, a0.err)) else (grd (0 ≤ a0.at_ ∧ a0.at_ ≤ (a0.b.length : Int) ∧ (a0.b.length : Int) ≤ (a0.b.length : Int)) (if (decide (((sub a0.b a0.at_ (a0.b.length : Int)).length : Int) = (0 : Int))) = true then ((f_wire_Reader_fail a0 (⟨#[110, 117, 109]⟩ : ByteArray) a0.at_ (3 : Int)).bind fun (r26 : GErr) => (some ((0 : Int), a0.at_, r26))) else (grd (0 ≤ (0 : Int) ∧ (0 : Int) < (sub a0.b a0.at_ (a0.b.length : Int)).length) (grd (0 ≤ shrI .u8 (rd (sub a0.b a0.at_ (a0.b.length : Int)) (0 : Int)) (6 : Int)) (if (decide (((sub a0.b a0.at_ (a0.b.length : Int)).length : Int) < (shlI .i64 (1 : Int) (shrI .u8 (rd (sub a0.b a0.at_ (a0.b.length : Int)) (0 : Int)) (6 : Int))))) = true then ((f_wire_Reader_fail a0 (⟨#[110, 117, 109]⟩ : ByteArray) a0.at_ (3 : Int)).bind fun (r39 : GErr) => (some ((0 : Int), a0.at_, r39))) else (grd (0 ≤ (0 : Int) ∧ (0 : Int) < (sub a0.b a0.at_ (a0.b.length : Int)).length) (((((((if (decide ((shlI .i64 (1 : Int) (shrI .u8 (rd (sub a0.b a0.at_ (a0.b.length : Int)) (0 : Int)) (6 : Int))) = (8 : Int))) = true then ((f_wire_Reader_Num_1 (IntKind.u64.wrap (andI .u8 (rd (sub a0.b a0.at_ (a0.b.length : Int)) (0 : Int)) (63 : Int))) (sub a0.b a0.at_ (a0.b.length : Int)) (1 : Int)).bind fun (r65, r66) => ((f_wire_Reader_Num_1 r65 (sub a0.b a0.at_ (a0.b.length : Int)) r66).bind fun (r70, r71) => ((f_wire_Reader_Num_1 r70 (sub a0.b a0.at_ (a0.b.length : Int)) r71).bind fun (r75, r76) => ((f_wire_Reader_Num_1 r75 (sub a0.b a0.at_ (a0.b.length : Int)) r76).bind fun (r80, r81) => (some (Sum.inl (IntKind.u64.wrap ((0 : Int) + (1073725440 : Int)), r81, r80))))))) else (if (decide ((shlI .i64 (1 : Int) (shrI .u8 (rd (sub a0.b a0.at_ (a0.b.length : Int)) (0 : Int)) (6 : Int))) = (4 : Int))) = true then (some (Sum.inl ((0 : Int), (1 : Int), IntKind.u64.wrap (andI .u8 (rd (sub a0.b a0.at_ (a0.b.length : Int)) (0 : Int)) (63 : Int))))) else (if (decide ((shlI .i64 (1 : Int) (shrI .u8 (rd (sub a0.b a0.at_ (a0.b.length : Int)) (0 : Int)) (6 : Int))) = (2 : Int))) = true then (((some (Sum.inl ((0 : Int), (1 : Int), IntKind.u64.wrap (andI .u8 (rd (sub a0.b a0.at_ (a0.b.length : Int)) (0 : Int)) (63 : Int)))))).bind fun r => some (Sum.inr r)) else (((((some ((0 : Int), (1 : Int), IntKind.u64.wrap (andI .u8 (rd (sub a0.b a0.at_ (a0.b.length : Int)) (0 : Int)) (63 : Int))))).bind fun r => some (Sum.inr r))).bind fun r => some (Sum.inr r))))) : Option ((Int × Int × Int) ⊕ ((Int × Int × Int) ⊕ (Int × Int × Int)))).bind (Sum.elim (fun (x60, x61, x62) => ((f_wire_Reader_Num_1 x62 (sub a0.b a0.at_ (a0.b.length : Int)) x61).bind fun (r87, r88) => ((f_wire_Reader_Num_1 r87 (sub a0.b a0.at_ (a0.b.length : Int)) r88).bind fun (r92, r93) => (some (Sum.inl (IntKind.u64.wrap (x60 + (16320 : Int)), r93, r92)))))) some)) : Option ((Int × Int × Int) ⊕ (Int × Int × Int))).bind (Sum.elim (fun (x56, x57, x58) => ((f_wire_Reader_Num_1 x58 (sub a0.b a0.at_ (a0.b.length : Int)) x57).bind fun (r97, r98) => (some (IntKind.u64.wrap (x56 + (64 : Int)), r98, r97)))) some)) : Option (Int × Int × Int)).bind fun (x52, x53, x54) => (if (decide (x54 < x52)) = true then ((f_wire_Reader_fail a0 (⟨#[110, 117, 109]⟩ : ByteArray) a0.at_ (5 : Int)).bind fun (r103 : GErr) => (some ((0 : Int), a0.at_, r103))) else (if (decide (a1 < x54)) = true then ((f_wire_Reader_fail a0 (⟨#[110, 117, 109]⟩ : ByteArray) a0.at_ (6 : Int)).bind fun (r108 : GErr) => (some ((0 : Int), a0.at_, r108))) else (some (x54, IntKind.i64.wrap (a0.at_ + (shlI .i64 (1 : Int) (shrI .u8 (rd (sub a0.b a0.at_ (a0.b.length : Int)) (0 : Int)) (6 : Int)))), a0.err))))))))))))
def f_wire_Reader_Num_post (a0 : T_wire_Reader) (a1 : Int) (v0_0 : Value) (g0 : Nat) : (Int × Int × GErr) → Value → IM → HL → Prop :=
  fun (p_ : (Int × Int × GErr)) (v : Value) (M' : IM) (H' : HL) => match p_ with | (r0, r1, r2) => (.int .u64 r0) = v ∧ H' = [[(g0, .cells #[v0_0, (.int .i64 r1), (GV r2)] 151 (0, 0))]]
theorem f_wire_Reader_Num_ok (a0 : T_wire_Reader) (a1 : Int) (M : IM) (v0_0 : Value) (g0 : Nat) (h0_0 : RS (Kd.int .u8) M v0_0 a0.b) (res : (Int × Int × GErr)) (h : f_wire_Reader_Num a0 a1 = some res) :
    Tri Tryd.prog 92 #[(pt g0 0), (.int .u64 a1)] M [[(g0, .cells #[v0_0, (.int .i64 a0.at_), (GV a0.err)] 151 (0, 0))]] (f_wire_Reader_Num_post a0 a1 v0_0 g0 res) := by
 unfold f_wire_Reader_Num at h
 refine Tri.enter (fn := Tryd.f92) Tryd.func92 rfl (Nat.le_of_ble_eq_true rfl) ?_
 intro F ρ hρ
 refine Sr ?_
 refine Pa (.int .u64 0) rfl rfl ?_
 refine Nt ?_
 refine WC.seq ?_
 refine Sr ?_
 refine Pm (pt g0 0) (hρ 0) rfl ?_
 refine Pu (pt g0 0) (PO.nilCheck rfl) rfl ?_
 refine Pu (pt g0 2) (PO.fieldAddr fo151_2 rfl rfl) rfl ?_
 refine Pu (GV a0.err) (PO.loadB 0 pl28 rfl rfl rfl) rfl ?_
 refine Pu (.bool (!a0.err.isNil)) (PO.errNotNil Tryd.underlying28 rfl) rfl ?_
 refine Nt ?_
 refine WC.cond (b := !a0.err.isNil) rfl (fun hb21 => ?_) (fun hb21 => ?_)
 have h := ite_t hb21 h
 refine Sr ?_
 refine Pa (.int .u64 0) rfl rfl ?_
 refine Nt ?_
 refine WC.ret ?_
 refine WQ.thenR ?_
 exact WQ.returnsF h [[(g0, .cells #[v0_0, (.int .i64 a0.at_), (GV a0.err)] 151 (0, 0))]] rfl (results1 rfl rfl) (IM.le.refl _) ⟨rfl, rfl⟩
 have h := ite_f hb21 h
 refine WC.skip ?_
 refine WQ.thenC ?_
 refine WC.seq ?_
 refine WC.draw [0, 1, 3, 7, 0, 16, 48, 112, 255, 0, 1023] (.pure 0 (.pure 1 (.pure 2 (.pure 3 (.pure 4 (.pure 5 (.pure 6 (.pure 7 (.pure 8 (.alt 9 (.alt 10 .done .none) .none)))))))))) mixed (by kernel_rfl) ?_
 refine Tp (pt g0 0) rfl (PO.move (hρ 0)) rfl ?_
 refine Tp (pt g0 0) rfl (PO.nilCheck rfl) rfl ?_
 refine Tp (pt g0 0) rfl (PO.fieldAddr fo151_0 rfl rfl) rfl ?_
 refine Tp v0_0 rfl (PO.loadB 0 pl26 rfl rfl rfl) rfl ?_
 refine Tp (pt g0 0) rfl (PO.move (hρ 0)) rfl ?_
 refine Tp (pt g0 0) rfl (PO.nilCheck rfl) rfl ?_
 refine Tp (pt g0 1) rfl (PO.fieldAddr fo151_1 rfl rfl) rfl ?_
 refine Tp (.int .i64 a0.at_) rfl (PO.loadB 0 pl3 rfl rfl rfl) rfl ?_
 obtain ⟨hg22, h⟩ := grd_i h
 have h23 := h0_0.sub hg22.1 hg22.2.1 hg22.2.2
 refine Tp (slV v0_0 1 (a0.at_).toNat ((a0.b.length : Int)).toNat) rfl (PO.slice (n := a0.b.length) (l := (a0.at_).toNat) (h := ((a0.b.length : Int)).toNat) Tryd.underlying26 sz5 rfl h0_0.len h0_0.cap ⟨_, _, rfl, hg22.1, rfl⟩ (boundN_ rfl) (Int.toNat_le_toNat hg22.2.1) (toNat_le_len hg22.2.2)) rfl ?_
 refine WT.alt rfl (EO.alloc ze26 rfl) rfl ?_ ?_
 rintro _ _ _ - ⟨rfl, g24, rfl, rfl⟩
 refine ⟨(StabL.st (StabA.of rfl (PO.slice (n := a0.b.length) (l := (a0.at_).toNat) (h := ((a0.b.length : Int)).toNat) Tryd.underlying26 sz5 rfl h0_0.len h0_0.cap ⟨_, _, rfl, hg22.1, rfl⟩ (boundN_ rfl) (Int.toNat_le_toNat hg22.2.1) (toNat_le_len hg22.2.2)) rfl) (StabL.st (StabA.of rfl (PO.loadB 1 pl3 rfl rfl rfl) rfl) (StabL.st (StabA.of rfl (PO.fieldAddr fo151_1 rfl rfl) rfl) (StabL.st (StabA.of rfl (PO.nilCheck rfl) rfl) (StabL.st (StabA.of rfl (PO.move (hρ 0)) rfl) (StabL.st (StabA.of rfl (PO.loadB 1 pl26 rfl rfl rfl) rfl) (StabL.st (StabA.of rfl (PO.fieldAddr fo151_0 rfl rfl) rfl) (StabL.st (StabA.of rfl (PO.nilCheck rfl) rfl) (StabL.st (StabA.of rfl (PO.move (hρ 0)) rfl) trivial))))))))), ?_⟩
 refine WT.alt rfl (EO.storeL (v := (slV v0_0 1 (a0.at_).toNat ((a0.b.length : Int)).toNat)) (vl := [(slV v0_0 1 (a0.at_).toNat ((a0.b.length : Int)).toNat)]) (arr' := [(slV v0_0 1 (a0.at_).toNat ((a0.b.length : Int)).toNat)]) h23.cells sz26 rfl rfl (onesOf (Ones.cons (RS.one h23) Ones.nil)) rfl rfl rfl) rfl ?_ ?_
 rintro _ _ _ - ⟨rfl, rfl⟩
 refine ⟨(StabL.anc rfl (StabL.anc rfl (StabL.anc rfl (StabL.anc rfl (StabL.anc rfl (StabL.anc rfl (StabL.anc rfl (StabL.anc rfl (StabL.anc rfl trivial))))))))), ?_⟩
 refine WT.fin ?_
 refine WQ.thenC ?_
 refine WC.seq ?_
 refine Sr ?_
 refine Pu (slV v0_0 1 (a0.at_).toNat ((a0.b.length : Int)).toNat) (PO.loadB 0 pl26 rfl rfl rfl) rfl ?_
 refine Pu (.int .i64 ((sub a0.b a0.at_ (a0.b.length : Int)).length : Int)) (PO.lenS Tryd.underlying26 rfl h23.len) rfl ?_
 refine Pu (.bool (decide (((sub a0.b a0.at_ (a0.b.length : Int)).length : Int) = (0 : Int)))) (PO.eql rfl rfl) rfl ?_
 refine Nt ?_
 refine WC.cond (b := decide (((sub a0.b a0.at_ (a0.b.length : Int)).length : Int) = (0 : Int))) rfl (fun hb25 => ?_) (fun hb25 => ?_)
 have h := ite_t hb25 h
 refine Sr ?_
 refine Pm (pt g0 0) (hρ 0) rfl ?_
 refine Pm (pt g0 0) (hρ 0) rfl ?_
 refine Pu (pt g0 0) (PO.nilCheck rfl) rfl ?_
 refine Pu (pt g0 1) (PO.fieldAddr fo151_1 rfl rfl) rfl ?_
 refine Pu (.int .i64 a0.at_) (PO.loadB 1 pl3 rfl rfl rfl) rfl ?_
 obtain ⟨r26, hr27, h⟩ := bnd h
 refine WL.f1 ?_
 refine WL.eff (EO.call1 co87 (f_wire_Reader_fail_ok a0 (⟨#[110, 117, 109]⟩ : ByteArray) a0.at_ (3 : Int) _ _ _ h0_0 r26 hr27) (args4 rfl rfl rfl rfl)) rfl ?_
 rintro _ M28 _ hle29 ⟨_, ⟨rfl, rfl⟩, rfl⟩
 have h0_0 := h0_0.mono hle29
 have h23 := h23.mono hle29
 refine WL.a1 ?_
 refine Ns ?_
 refine Pa (.int .u64 0) rfl rfl ?_
 refine Nt ?_
 refine WC.ret ?_
 refine WQ.thenR ?_
 refine WQ.f1 ?_
 refine WQ.drop ?_
 exact WQ.returnsF h [[(g0, .cells #[v0_0, (.int .i64 a0.at_), (GV r26)] 151 (0, 0))]] rfl (results1 rfl rfl) hle29 ⟨rfl, rfl⟩
 have h := ite_f hb25 h
 refine WC.skip ?_
 refine WQ.thenC ?_
 refine Sr ?_
 refine Pu (slV v0_0 1 (a0.at_).toNat ((a0.b.length : Int)).toNat) (PO.loadB 0 pl26 rfl rfl rfl) rfl ?_
 obtain ⟨hg30, h⟩ := grd_i h
 obtain ⟨p31, cs32, hat33, hrc34, hhas35⟩ := h23.at hg30.1 hg30.2 (by decide)
 obtain rfl := hrc34
 refine Pu (.pointer (some p31)) (PO.indexAddr (n := (sub a0.b a0.at_ (a0.b.length : Int)).length) Tryd.underlying26 sz5 rfl rfl hg30.1 hg30.2 hat33) rfl ?_
 refine Pu (.int .u8 (rd (sub a0.b a0.at_ (a0.b.length : Int)) (0 : Int))) (PO.loadM pl5 rfl (IM.has0 hhas35)) rfl ?_
 refine Pu (.int .u8 (shrI .u8 (rd (sub a0.b a0.at_ (a0.b.length : Int)) (0 : Int)) (6 : Int))) (PO.shr rfl rfl (by decide)) rfl ?_
 obtain ⟨hg37, h⟩ := grd_i h
 refine Pu (.int .i64 (shlI .i64 (1 : Int) (shrI .u8 (rd (sub a0.b a0.at_ (a0.b.length : Int)) (0 : Int)) (6 : Int)))) (PO.shl rfl rfl hg37) rfl ?_
 refine Pa (.int .i64 (shlI .i64 (1 : Int) (shrI .u8 (rd (sub a0.b a0.at_ (a0.b.length : Int)) (0 : Int)) (6 : Int)))) rfl rfl ?_
 refine Nt ?_
 refine WC.seq ?_
 refine Sr ?_
 refine Pu (slV v0_0 1 (a0.at_).toNat ((a0.b.length : Int)).toNat) (PO.loadB 0 pl26 rfl rfl rfl) rfl ?_
 refine Pu (.int .i64 ((sub a0.b a0.at_ (a0.b.length : Int)).length : Int)) (PO.lenS Tryd.underlying26 rfl h23.len) rfl ?_
 refine Pm (.int .i64 (shlI .i64 (1 : Int) (shrI .u8 (rd (sub a0.b a0.at_ (a0.b.length : Int)) (0 : Int)) (6 : Int)))) rfl rfl ?_
 refine Pu (.bool (decide (((sub a0.b a0.at_ (a0.b.length : Int)).length : Int) < (shlI .i64 (1 : Int) (shrI .u8 (rd (sub a0.b a0.at_ (a0.b.length : Int)) (0 : Int)) (6 : Int)))))) (PO.lss rfl rfl) rfl ?_
 refine Nt ?_
 refine WC.cond (b := decide (((sub a0.b a0.at_ (a0.b.length : Int)).length : Int) < (shlI .i64 (1 : Int) (shrI .u8 (rd (sub a0.b a0.at_ (a0.b.length : Int)) (0 : Int)) (6 : Int))))) rfl (fun hb38 => ?_) (fun hb38 => ?_)
 have h := ite_t hb38 h
 refine Sr ?_
 refine Pm (pt g0 0) (hρ 0) rfl ?_
 refine Pm (pt g0 0) (hρ 0) rfl ?_
 refine Pu (pt g0 0) (PO.nilCheck rfl) rfl ?_
 refine Pu (pt g0 1) (PO.fieldAddr fo151_1 rfl rfl) rfl ?_
 refine Pu (.int .i64 a0.at_) (PO.loadB 1 pl3 rfl rfl rfl) rfl ?_
 obtain ⟨r39, hr40, h⟩ := bnd h
 refine WL.f1 ?_
 refine WL.eff (EO.call1 co87 (f_wire_Reader_fail_ok a0 (⟨#[110, 117, 109]⟩ : ByteArray) a0.at_ (3 : Int) _ _ _ h0_0 r39 hr40) (args4 rfl rfl rfl rfl)) rfl ?_
 rintro _ M41 _ hle42 ⟨_, ⟨rfl, rfl⟩, rfl⟩
 have h0_0 := h0_0.mono hle42
 have h23 := h23.mono hle42
 refine WL.a1 ?_
 refine Ns ?_
 refine Pa (.int .u64 0) rfl rfl ?_
 refine Nt ?_
 refine WC.ret ?_
 refine WQ.thenR ?_
 refine WQ.f1 ?_
 refine WQ.drop ?_
 exact WQ.returnsF h [[(g0, .cells #[v0_0, (.int .i64 a0.at_), (GV r39)] 151 (0, 0))]] rfl (results1 rfl rfl) hle42 ⟨rfl, rfl⟩
 have h := ite_f hb38 h
 refine WC.skip ?_
 refine WQ.thenC ?_
 refine Sr ?_
 refine Pu (slV v0_0 1 (a0.at_).toNat ((a0.b.length : Int)).toNat) (PO.loadB 0 pl26 rfl rfl rfl) rfl ?_
 obtain ⟨hg43, h⟩ := grd_i h
 obtain ⟨p44, cs45, hat46, hrc47, hhas48⟩ := h23.at hg43.1 hg43.2 (by decide)
 obtain rfl := hrc47
 refine Pu (.pointer (some p44)) (PO.indexAddr (n := (sub a0.b a0.at_ (a0.b.length : Int)).length) Tryd.underlying26 sz5 rfl rfl hg43.1 hg43.2 hat46) rfl ?_
 refine Pu (.int .u8 (rd (sub a0.b a0.at_ (a0.b.length : Int)) (0 : Int))) (PO.loadM pl5 rfl (IM.has0 hhas48)) rfl ?_
 refine Pu (.int .u8 (andI .u8 (rd (sub a0.b a0.at_ (a0.b.length : Int)) (0 : Int)) (63 : Int))) (PO.and rfl rfl) rfl ?_
 refine Pu (.int .u64 (IntKind.u64.wrap (andI .u8 (rd (sub a0.b a0.at_ (a0.b.length : Int)) (0 : Int)) (63 : Int)))) (PO.conv us5 Tryd.underlying42 rfl) rfl ?_
 refine WL.eff (EO.alloc ze42 rfl) rfl ?_
 rintro _ _ _ - ⟨rfl, g50, rfl, rfl⟩
 refine WL.eff (EO.alloc ze3 rfl) rfl ?_
 rintro _ _ _ - ⟨rfl, g51, rfl, rfl⟩
 refine WL.f1 ?_
 refine WL.eff (EO.storeL (v := (.int .u64 (IntKind.u64.wrap (andI .u8 (rd (sub a0.b a0.at_ (a0.b.length : Int)) (0 : Int)) (63 : Int))))) (vl := [(.int .u64 (IntKind.u64.wrap (andI .u8 (rd (sub a0.b a0.at_ (a0.b.length : Int)) (0 : Int)) (63 : Int))))]) (arr' := [(.int .u64 (IntKind.u64.wrap (andI .u8 (rd (sub a0.b a0.at_ (a0.b.length : Int)) (0 : Int)) (63 : Int))))]) rfl sz42 rfl rfl (onesOf (Ones.cons rfl Ones.nil)) rfl rfl rfl) rfl ?_
 rintro _ _ _ - ⟨rfl, rfl⟩
 refine WL.f1 ?_
 refine WL.eff (EO.storeL (v := (.int .i64 1)) (vl := [(.int .i64 1)]) (arr' := [(.int .i64 1)]) rfl sz3 rfl rfl (onesOf (Ones.cons rfl Ones.nil)) rfl rfl rfl) rfl ?_
 rintro _ _ _ - ⟨rfl, rfl⟩
 refine Ns ?_
 refine Pu (.func (.func 115) #[] #[(pt g50 0), (pt g24 0), (pt g51 0)]) (PO.makeFunc2 (args0) (args3 (show ev _ _ = (pt g50 0) from rfl) (show ev _ _ = (pt g24 0) from rfl) (show ev _ _ = (pt g51 0) from rfl))) rfl ?_
 refine Pa (.func (.func 115) #[] #[(pt g50 0), (pt g24 0), (pt g51 0)]) rfl rfl ?_
 refine Ns ?_
 refine Pa (.int .u64 0) rfl rfl ?_
 refine Nt ?_
 obtain ⟨j55, hj55, h⟩ := bnd h
 refine WC.joinF (fun (p_ : (Int × Int × Int)) ρ' M' H' => match p_ with | (x52, x53, x54) => M.le M' ∧ [(g51, .cells #[(.int .i64 x53)] 3 (0, 0))] :: [(g50, .cells #[(.int .u64 x54)] 42 (0, 0))] :: [(g24, .cells #[(slV v0_0 1 (a0.at_).toNat ((a0.b.length : Int)).toNat)] 26 (0, 0))] :: [(g0, .cells #[v0_0, (.int .i64 a0.at_), (GV a0.err)] 151 (0, 0))] :: F = H' ∧ ρ' 0 = (pt g0 0) ∧ ρ' 1 = (.int .u64 a1) ∧ ρ' 6 = (.int .i64 (shlI .i64 (1 : Int) (shrI .u8 (rd (sub a0.b a0.at_ (a0.b.length : Int)) (0 : Int)) (6 : Int)))) ∧ ρ' 7 = (pt g50 0) ∧ ρ' 10 = (.int .u64 x52)) j55 ?_ ?_
 have h355 := h
 have h := hj55
 refine Sr ?_
 refine Pm (.int .i64 (shlI .i64 (1 : Int) (shrI .u8 (rd (sub a0.b a0.at_ (a0.b.length : Int)) (0 : Int)) (6 : Int)))) rfl rfl ?_
 refine Nt ?_
 refine WC.block ?_
 obtain ⟨j59, hj59, h⟩ := bnd h
 refine WC.joinE (fun (p_ : (Int × Int × Int)) ρ' M' H' => match p_ with | (x56, x57, x58) => M.le M' ∧ [(g51, .cells #[(.int .i64 x57)] 3 (0, 0))] :: [(g50, .cells #[(.int .u64 x58)] 42 (0, 0))] :: [(g24, .cells #[(slV v0_0 1 (a0.at_).toNat ((a0.b.length : Int)).toNat)] 26 (0, 0))] :: [(g0, .cells #[v0_0, (.int .i64 a0.at_), (GV a0.err)] 151 (0, 0))] :: F = H' ∧ ρ' 0 = (pt g0 0) ∧ ρ' 1 = (.int .u64 a1) ∧ ρ' 6 = (.int .i64 (shlI .i64 (1 : Int) (shrI .u8 (rd (sub a0.b a0.at_ (a0.b.length : Int)) (0 : Int)) (6 : Int)))) ∧ ρ' 7 = (pt g50 0) ∧ ρ' 9 = (.func (.func 115) #[] #[(pt g50 0), (pt g24 0), (pt g51 0)]) ∧ ρ' 10 = (.int .u64 x56)) j59 ?_ ?_
 have h359 := h
 have h := hj59
 refine WC.block ?_
 obtain ⟨j63, hj63, h⟩ := bnd h
 refine WC.joinE (fun (p_ : (Int × Int × Int)) ρ' M' H' => match p_ with | (x60, x61, x62) => M.le M' ∧ [(g51, .cells #[(.int .i64 x61)] 3 (0, 0))] :: [(g50, .cells #[(.int .u64 x62)] 42 (0, 0))] :: [(g24, .cells #[(slV v0_0 1 (a0.at_).toNat ((a0.b.length : Int)).toNat)] 26 (0, 0))] :: [(g0, .cells #[v0_0, (.int .i64 a0.at_), (GV a0.err)] 151 (0, 0))] :: F = H' ∧ ρ' 0 = (pt g0 0) ∧ ρ' 1 = (.int .u64 a1) ∧ ρ' 6 = (.int .i64 (shlI .i64 (1 : Int) (shrI .u8 (rd (sub a0.b a0.at_ (a0.b.length : Int)) (0 : Int)) (6 : Int)))) ∧ ρ' 7 = (pt g50 0) ∧ ρ' 9 = (.func (.func 115) #[] #[(pt g50 0), (pt g24 0), (pt g51 0)]) ∧ ρ' 10 = (.int .u64 x60)) j63 ?_ ?_
 have h363 := h
 have h := hj63
 refine WC.block ?_
 refine WC.seq ?_
 refine WC.block ?_
 refine WC.seq ?_
 refine WC.seq ?_
 refine Sr ?_
 refine Pu (.bool (decide ((shlI .i64 (1 : Int) (shrI .u8 (rd (sub a0.b a0.at_ (a0.b.length : Int)) (0 : Int)) (6 : Int))) = 8))) (PO.eql rfl rfl) rfl ?_
 refine Pa (.bool (decide ((shlI .i64 (1 : Int) (shrI .u8 (rd (sub a0.b a0.at_ (a0.b.length : Int)) (0 : Int)) (6 : Int))) = 8))) rfl rfl ?_
 refine Nt ?_
 refine WC.cond (b := decide ((shlI .i64 (1 : Int) (shrI .u8 (rd (sub a0.b a0.at_ (a0.b.length : Int)) (0 : Int)) (6 : Int))) = 8)) rfl (fun hb64 => ?_) (fun hb64 => ?_)
 have h := ite_t hb64 h
 refine WC.exit ?_
 refine WQ.thenE ?_
 refine WQ.thenE ?_
 refine WQ.blockH ?_
 refine WQ.thenC ?_
 refine Sr ?_
 refine Pm (.func (.func 115) #[] #[(pt g50 0), (pt g24 0), (pt g51 0)]) rfl rfl ?_
 obtain ⟨⟨r65, r66⟩, hr67, h⟩ := bnd h
 refine WL.f2 ?_
 refine WL.f2 ?_
 refine WL.eff (EO.callV3 (first := #[]) (cap := #[(pt g50 0), (pt g24 0), (pt g51 0)]) co115 rfl (f_wire_Reader_Num_1_ok (IntKind.u64.wrap (andI .u8 (rd (sub a0.b a0.at_ (a0.b.length : Int)) (0 : Int)) (63 : Int))) (sub a0.b a0.at_ (a0.b.length : Int)) (1 : Int) _ _ _ _ _ h23 (r65, r66) hr67) (argsV0 rfl)) rfl ?_
 rintro _ M68 _ hle69 ⟨_, ⟨rfl, rfl⟩, rfl⟩
 have h0_0 := h0_0.mono hle69
 have h23 := h23.mono hle69
 refine WL.a3 ?_
 refine Ns ?_
 refine Pm (.func (.func 115) #[] #[(pt g50 0), (pt g24 0), (pt g51 0)]) rfl rfl ?_
 obtain ⟨⟨r70, r71⟩, hr72, h⟩ := bnd h
 refine WL.f2 ?_
 refine WL.f2 ?_
 refine WL.f2 ?_
 refine WL.eff (EO.callV3 (first := #[]) (cap := #[(pt g50 0), (pt g24 0), (pt g51 0)]) co115 rfl (f_wire_Reader_Num_1_ok r65 (sub a0.b a0.at_ (a0.b.length : Int)) r66 _ _ _ _ _ h23 (r70, r71) hr72) (argsV0 rfl)) rfl ?_
 rintro _ M73 _ hle74 ⟨_, ⟨rfl, rfl⟩, rfl⟩
 have h0_0 := h0_0.mono hle74
 have h23 := h23.mono hle74
 refine WL.a3 ?_
 refine Ns ?_
 refine Pm (.func (.func 115) #[] #[(pt g50 0), (pt g24 0), (pt g51 0)]) rfl rfl ?_
 obtain ⟨⟨r75, r76⟩, hr77, h⟩ := bnd h
 refine WL.f2 ?_
 refine WL.f2 ?_
 refine WL.f2 ?_
 refine WL.eff (EO.callV3 (first := #[]) (cap := #[(pt g50 0), (pt g24 0), (pt g51 0)]) co115 rfl (f_wire_Reader_Num_1_ok r70 (sub a0.b a0.at_ (a0.b.length : Int)) r71 _ _ _ _ _ h23 (r75, r76) hr77) (argsV0 rfl)) rfl ?_
 rintro _ M78 _ hle79 ⟨_, ⟨rfl, rfl⟩, rfl⟩
 have h0_0 := h0_0.mono hle79
 have h23 := h23.mono hle79
 refine WL.a3 ?_
 refine Ns ?_
 refine Pm (.func (.func 115) #[] #[(pt g50 0), (pt g24 0), (pt g51 0)]) rfl rfl ?_
 obtain ⟨⟨r80, r81⟩, hr82, h⟩ := bnd h
 refine WL.f2 ?_
 refine WL.f2 ?_
 refine WL.f2 ?_
 refine WL.eff (EO.callV3 (first := #[]) (cap := #[(pt g50 0), (pt g24 0), (pt g51 0)]) co115 rfl (f_wire_Reader_Num_1_ok r75 (sub a0.b a0.at_ (a0.b.length : Int)) r76 _ _ _ _ _ h23 (r80, r81) hr82) (argsV0 rfl)) rfl ?_
 rintro _ M83 _ hle84 ⟨_, ⟨rfl, rfl⟩, rfl⟩
 have h0_0 := h0_0.mono hle84
 have h23 := h23.mono hle84
 refine WL.a3 ?_
 refine Nt ?_
 refine WC.region ?_
 refine Pm (.int .u64 0) rfl rfl ?_
 refine Pu (.int .u64 (IntKind.u64.wrap ((0 : Int) + (1073725440 : Int)))) (PO.add rfl rfl) rfl ?_
 refine Pa (.int .u64 (IntKind.u64.wrap ((0 : Int) + (1073725440 : Int)))) rfl rfl ?_
 refine WL.nil ?_
 refine WQ.blockN ?_
 refine WQ.f3 ?_
 refine WQ.f2 ?_
 refine WQ.f2 ?_
 refine WQ.f3 ?_
 refine WQ.thenFE h ?_
 exact ⟨(((hle69.trans hle74).trans hle79).trans hle84), rfl, (hρ 0), (hρ 1), rfl, rfl, rfl, rfl⟩
 have h := ite_f hb64 h
 refine WC.skip ?_
 refine WQ.thenC ?_
 refine WC.seq ?_
 refine Sr ?_
 refine Pu (.bool (decide ((shlI .i64 (1 : Int) (shrI .u8 (rd (sub a0.b a0.at_ (a0.b.length : Int)) (0 : Int)) (6 : Int))) = 4))) (PO.eql rfl rfl) rfl ?_
 refine Pa (.bool (decide ((shlI .i64 (1 : Int) (shrI .u8 (rd (sub a0.b a0.at_ (a0.b.length : Int)) (0 : Int)) (6 : Int))) = 4))) rfl rfl ?_
 refine Nt ?_
 refine WC.cond (b := decide ((shlI .i64 (1 : Int) (shrI .u8 (rd (sub a0.b a0.at_ (a0.b.length : Int)) (0 : Int)) (6 : Int))) = 4)) rfl (fun hb85 => ?_) (fun hb85 => ?_)
 have h := ite_t hb85 h
 refine WC.exit ?_
 refine WQ.thenE ?_
 refine WQ.thenE ?_
 refine WQ.blockM rfl ?_
 refine WQ.thenE ?_
 refine WQ.blockH ?_
 refine WQ.thenFE h ?_
 exact ⟨(IM.le.refl _), rfl, (hρ 0), (hρ 1), rfl, rfl, rfl, rfl⟩
 have h := ite_f hb85 h
 refine WC.skip ?_
 refine WQ.thenC ?_
 refine Sr ?_
 refine Pu (.bool (decide ((shlI .i64 (1 : Int) (shrI .u8 (rd (sub a0.b a0.at_ (a0.b.length : Int)) (0 : Int)) (6 : Int))) = 2))) (PO.eql rfl rfl) rfl ?_
 refine Pa (.bool (decide ((shlI .i64 (1 : Int) (shrI .u8 (rd (sub a0.b a0.at_ (a0.b.length : Int)) (0 : Int)) (6 : Int))) = 2))) rfl rfl ?_
 refine Nt ?_
 refine WC.cond (b := decide ((shlI .i64 (1 : Int) (shrI .u8 (rd (sub a0.b a0.at_ (a0.b.length : Int)) (0 : Int)) (6 : Int))) = 2)) rfl (fun hb86 => ?_) (fun hb86 => ?_)
 have h := ite_t hb86 h
 refine WC.exit ?_
 refine WQ.thenE ?_
 refine WQ.blockM rfl ?_
 refine WQ.thenE ?_
 refine WQ.blockM rfl ?_
 refine WQ.thenE ?_
 have h := KK.early h h363
 refine WQ.blockH ?_
 refine WQ.thenFE h ?_
 exact ⟨(IM.le.refl _), rfl, (hρ 0), (hρ 1), rfl, rfl, rfl, rfl⟩
 have h := ite_f hb86 h
 refine WC.skip ?_
 refine WQ.thenC ?_
 refine WC.exit ?_
 refine WQ.blockM rfl ?_
 refine WQ.thenE ?_
 refine WQ.blockM rfl ?_
 refine WQ.thenE ?_
 have h := KK.early h h363
 refine WQ.blockM rfl ?_
 refine WQ.thenE ?_
 have h := KK.early h h359
 refine WQ.blockH ?_
 obtain rfl := Option.some.inj h
 refine WQ.thenJ ?_
 exact ⟨(IM.le.refl _), rfl, (hρ 0), (hρ 1), rfl, rfl, rfl⟩
 rintro ⟨x60, x61, x62⟩ ρ63 M63 H63 rfl ⟨hle63, rfl, hs63_0, hs63_1, hs63_6, hs63_7, hs63_9, hs63_10⟩
 have h := (Sum.elim_inl _ _ _).symm.trans h
 have h23 := h23.mono hle63
 have h0_0 := h0_0.mono hle63
 refine Sr ?_
 refine Pm (.func (.func 115) #[] #[(pt g50 0), (pt g24 0), (pt g51 0)]) hs63_9 rfl ?_
 obtain ⟨⟨r87, r88⟩, hr89, h⟩ := bnd h
 refine WL.f2 ?_
 refine WL.f2 ?_
 refine WL.eff (EO.callV3 (first := #[]) (cap := #[(pt g50 0), (pt g24 0), (pt g51 0)]) co115 rfl (f_wire_Reader_Num_1_ok x62 (sub a0.b a0.at_ (a0.b.length : Int)) x61 _ _ _ _ _ h23 (r87, r88) hr89) (argsV0 rfl)) rfl ?_
 rintro _ M90 _ hle91 ⟨_, ⟨rfl, rfl⟩, rfl⟩
 have h23 := h23.mono hle91
 have h0_0 := h0_0.mono hle91
 refine WL.a3 ?_
 refine Ns ?_
 refine Pm (.func (.func 115) #[] #[(pt g50 0), (pt g24 0), (pt g51 0)]) hs63_9 rfl ?_
 obtain ⟨⟨r92, r93⟩, hr94, h⟩ := bnd h
 refine WL.f2 ?_
 refine WL.f2 ?_
 refine WL.f2 ?_
 refine WL.eff (EO.callV3 (first := #[]) (cap := #[(pt g50 0), (pt g24 0), (pt g51 0)]) co115 rfl (f_wire_Reader_Num_1_ok r87 (sub a0.b a0.at_ (a0.b.length : Int)) r88 _ _ _ _ _ h23 (r92, r93) hr94) (argsV0 rfl)) rfl ?_
 rintro _ M95 _ hle96 ⟨_, ⟨rfl, rfl⟩, rfl⟩
 have h23 := h23.mono hle96
 have h0_0 := h0_0.mono hle96
 refine WL.a3 ?_
 refine Nt ?_
 refine WC.region ?_
 refine Pm (.int .u64 x60) hs63_10 rfl ?_
 refine Pu (.int .u64 (IntKind.u64.wrap (x60 + 16320))) (PO.add rfl rfl) rfl ?_
 refine Pa (.int .u64 (IntKind.u64.wrap (x60 + 16320))) rfl rfl ?_
 refine WL.nil ?_
 refine WQ.blockN ?_
 refine WQ.f3 ?_
 refine WQ.f2 ?_
 refine WQ.f2 ?_
 refine WQ.f3 ?_
 refine WQ.thenFE h ?_
 exact ⟨((hle63.trans hle91).trans hle96), rfl, hs63_0, hs63_1, hs63_6, hs63_7, hs63_9, rfl⟩
 rintro ⟨x56, x57, x58⟩ ρ59 M59 H59 rfl ⟨hle59, rfl, hs59_0, hs59_1, hs59_6, hs59_7, hs59_9, hs59_10⟩
 have h := (Sum.elim_inl _ _ _).symm.trans h
 have h23 := h23.mono hle59
 have h0_0 := h0_0.mono hle59
 refine WC.seq ?_
 refine Sr ?_
 refine Pm (.func (.func 115) #[] #[(pt g50 0), (pt g24 0), (pt g51 0)]) hs59_9 rfl ?_
 obtain ⟨⟨r97, r98⟩, hr99, h⟩ := bnd h
 refine WL.f2 ?_
 refine WL.f2 ?_
 refine WL.eff (EO.callV3 (first := #[]) (cap := #[(pt g50 0), (pt g24 0), (pt g51 0)]) co115 rfl (f_wire_Reader_Num_1_ok x58 (sub a0.b a0.at_ (a0.b.length : Int)) x57 _ _ _ _ _ h23 (r97, r98) hr99) (argsV0 rfl)) rfl ?_
 rintro _ M100 _ hle101 ⟨_, ⟨rfl, rfl⟩, rfl⟩
 have h23 := h23.mono hle101
 have h0_0 := h0_0.mono hle101
 refine WL.a3 ?_
 refine Nt ?_
 refine WC.region ?_
 refine Pm (.int .u64 x56) hs59_10 rfl ?_
 refine Pu (.int .u64 (IntKind.u64.wrap (x56 + 64))) (PO.add rfl rfl) rfl ?_
 refine Pa (.int .u64 (IntKind.u64.wrap (x56 + 64))) rfl rfl ?_
 refine Nt ?_
 refine WC.exit ?_
 refine WQ.blockH ?_
 refine WQ.f3 ?_
 refine WQ.f2 ?_
 refine WQ.f2 ?_
 refine WQ.f3 ?_
 obtain rfl := Option.some.inj h
 refine WQ.thenJ ?_
 exact ⟨(hle59.trans hle101), rfl, hs59_0, hs59_1, hs59_6, hs59_7, rfl⟩
 obtain ⟨x52, x53, x54⟩ := j55
 rintro ρ55 M55 H55 ⟨hle55, rfl, hs55_0, hs55_1, hs55_6, hs55_7, hs55_10⟩
 have h23 := h23.mono hle55
 have h0_0 := h0_0.mono hle55
 refine WC.seq ?_
 refine WC.block ?_
 refine Sr ?_
 refine Pu (.int .u64 x54) (PO.loadB 1 pl42 hs55_7 rfl rfl) rfl ?_
 refine Pm (.int .u64 x52) hs55_10 rfl ?_
 refine Pu (.bool (decide (x54 < x52))) (PO.lss rfl rfl) rfl ?_
 refine Pa (.bool (decide (x54 < x52))) rfl rfl ?_
 refine Nt ?_
 refine WC.cond (b := decide (x54 < x52)) rfl (fun hb102 => ?_) (fun hb102 => ?_)
 have h := ite_t hb102 h
 refine Sr ?_
 refine Pm (pt g0 0) hs55_0 rfl ?_
 refine Pm (pt g0 0) hs55_0 rfl ?_
 refine Pu (pt g0 0) (PO.nilCheck rfl) rfl ?_
 refine Pu (pt g0 1) (PO.fieldAddr fo151_1 rfl rfl) rfl ?_
 refine Pu (.int .i64 a0.at_) (PO.loadB 3 pl3 rfl rfl rfl) rfl ?_
 obtain ⟨r103, hr104, h⟩ := bnd h
 refine WL.f3 ?_
 refine WL.eff (EO.call1 co87 (f_wire_Reader_fail_ok a0 (⟨#[110, 117, 109]⟩ : ByteArray) a0.at_ (5 : Int) _ _ _ h0_0 r103 hr104) (args4 rfl rfl rfl rfl)) rfl ?_
 rintro _ M105 _ hle106 ⟨_, ⟨rfl, rfl⟩, rfl⟩
 have h23 := h23.mono hle106
 have h0_0 := h0_0.mono hle106
 refine WL.a1 ?_
 refine Ns ?_
 refine Pa (.int .u64 0) rfl rfl ?_
 refine Nt ?_
 refine WC.ret ?_
 refine WQ.blockR ?_
 refine WQ.thenR ?_
 refine WQ.f1 ?_
 refine WQ.drop ?_
 refine WQ.f1 ?_
 refine WQ.drop ?_
 refine WQ.f1 ?_
 refine WQ.drop ?_
 exact WQ.returnsF h [[(g0, .cells #[v0_0, (.int .i64 a0.at_), (GV r103)] 151 (0, 0))]] rfl (results1 rfl rfl) (hle55.trans hle106) ⟨rfl, rfl⟩
 have h := ite_f hb102 h
 refine Sr ?_
 refine Pu (.int .u64 x54) (PO.loadB 1 pl42 hs55_7 rfl rfl) rfl ?_
 refine Pm (.int .u64 a1) hs55_1 rfl ?_
 refine Pu (.bool (decide (a1 < x54))) (PO.gtr rfl rfl) rfl ?_
 refine Pa (.bool (decide (a1 < x54))) rfl rfl ?_
 refine Nt ?_
 refine WC.cond (b := decide (a1 < x54)) rfl (fun hb107 => ?_) (fun hb107 => ?_)
 have h := ite_t hb107 h
 refine Sr ?_
 refine Pm (pt g0 0) hs55_0 rfl ?_
 refine Pm (pt g0 0) hs55_0 rfl ?_
 refine Pu (pt g0 0) (PO.nilCheck rfl) rfl ?_
 refine Pu (pt g0 1) (PO.fieldAddr fo151_1 rfl rfl) rfl ?_
 refine Pu (.int .i64 a0.at_) (PO.loadB 3 pl3 rfl rfl rfl) rfl ?_
 obtain ⟨r108, hr109, h⟩ := bnd h
 refine WL.f3 ?_
 refine WL.eff (EO.call1 co87 (f_wire_Reader_fail_ok a0 (⟨#[110, 117, 109]⟩ : ByteArray) a0.at_ (6 : Int) _ _ _ h0_0 r108 hr109) (args4 rfl rfl rfl rfl)) rfl ?_
 rintro _ M110 _ hle111 ⟨_, ⟨rfl, rfl⟩, rfl⟩
 have h23 := h23.mono hle111
 have h0_0 := h0_0.mono hle111
 refine WL.a1 ?_
 refine Ns ?_
 refine Pa (.int .u64 0) rfl rfl ?_
 refine Nt ?_
 refine WC.ret ?_
 refine WQ.blockR ?_
 refine WQ.thenR ?_
 refine WQ.f1 ?_
 refine WQ.drop ?_
 refine WQ.f1 ?_
 refine WQ.drop ?_
 refine WQ.f1 ?_
 refine WQ.drop ?_
 exact WQ.returnsF h [[(g0, .cells #[v0_0, (.int .i64 a0.at_), (GV r108)] 151 (0, 0))]] rfl (results1 rfl rfl) (hle55.trans hle111) ⟨rfl, rfl⟩
 have h := ite_f hb107 h
 refine WC.skip ?_
 refine WQ.blockN ?_
 refine WQ.thenC ?_
 refine Sr ?_
 refine Pm (pt g0 0) hs55_0 rfl ?_
 refine Pu (pt g0 0) (PO.nilCheck rfl) rfl ?_
 refine Pu (pt g0 1) (PO.fieldAddr fo151_1 rfl rfl) rfl ?_
 refine Pu (.int .i64 a0.at_) (PO.loadB 3 pl3 rfl rfl rfl) rfl ?_
 refine Pm (.int .i64 (shlI .i64 (1 : Int) (shrI .u8 (rd (sub a0.b a0.at_ (a0.b.length : Int)) (0 : Int)) (6 : Int)))) hs55_6 rfl ?_
 refine Pu (.int .i64 (IntKind.i64.wrap (a0.at_ + (shlI .i64 (1 : Int) (shrI .u8 (rd (sub a0.b a0.at_ (a0.b.length : Int)) (0 : Int)) (6 : Int)))))) (PO.add rfl rfl) rfl ?_
 refine Pu (pt g0 0) (PO.nilCheck rfl) rfl ?_
 refine Pu (pt g0 1) (PO.fieldAddr fo151_1 rfl rfl) rfl ?_
 refine WL.f3 ?_
 refine WL.eff (EO.storeL (v := (.int .i64 (IntKind.i64.wrap (a0.at_ + (shlI .i64 (1 : Int) (shrI .u8 (rd (sub a0.b a0.at_ (a0.b.length : Int)) (0 : Int)) (6 : Int))))))) (vl := [(.int .i64 (IntKind.i64.wrap (a0.at_ + (shlI .i64 (1 : Int) (shrI .u8 (rd (sub a0.b a0.at_ (a0.b.length : Int)) (0 : Int)) (6 : Int))))))]) (arr' := [v0_0, (.int .i64 (IntKind.i64.wrap (a0.at_ + (shlI .i64 (1 : Int) (shrI .u8 (rd (sub a0.b a0.at_ (a0.b.length : Int)) (0 : Int)) (6 : Int)))))), (GV a0.err)]) rfl sz3 rfl rfl (onesOf (Ones.cons rfl Ones.nil)) rfl rfl rfl) rfl ?_
 rintro _ _ _ - ⟨rfl, rfl⟩
 refine Ns ?_
 refine Pu (.int .u64 x54) (PO.loadB 2 pl42 hs55_7 rfl rfl) rfl ?_
 refine Pa (.int .u64 x54) rfl rfl ?_
 refine Nt ?_
 refine WC.ret ?_
 refine WQ.f1 ?_
 refine WQ.drop ?_
 refine WQ.f1 ?_
 refine WQ.drop ?_
 refine WQ.f1 ?_
 refine WQ.drop ?_
 exact WQ.returnsF h [[(g0, .cells #[v0_0, (.int .i64 (IntKind.i64.wrap (a0.at_ + (shlI .i64 (1 : Int) (shrI .u8 (rd (sub a0.b a0.at_ (a0.b.length : Int)) (0 : Int)) (6 : Int)))))), (GV a0.err)] 151 (0, 0))]] rfl (results1 rfl rfl) hle55 ⟨rfl, rfl⟩
 exact WT.no
 exact WT.no

noncomputable def f_wire_Reader_Int (a0 : T_wire_Reader) (a1 : Int) : Option (Int × Int × GErr) :=
  ((f_wire_Reader_Num a0 (IntKind.u64.wrap (if a1 < (0 : Int) then (0 : Int) else a1))).bind fun (r21, r22, r23) => (some (IntKind.i64.wrap r21, r22, r23)))
def f_wire_Reader_Int_post (a0 : T_wire_Reader) (a1 : Int) (v0_0 : Value) (g0 : Nat) : (Int × Int × GErr) → Value → IM → HL → Prop :=
  fun (p_ : (Int × Int × GErr)) (v : Value) (M' : IM) (H' : HL) => match p_ with | (r0, r1, r2) => (.int .i64 r0) = v ∧ H' = [[(g0, .cells #[v0_0, (.int .i64 r1), (GV r2)] 151 (0, 0))]]
theorem f_wire_Reader_Int_ok (a0 : T_wire_Reader) (a1 : Int) (M : IM) (v0_0 : Value) (g0 : Nat) (h0_0 : RS (Kd.int .u8) M v0_0 a0.b) (res : (Int × Int × GErr)) (h : f_wire_Reader_Int a0 a1 = some res) :
    Tri Tryd.prog 60 #[(pt g0 0), (.int .i64 a1)] M [[(g0, .cells #[v0_0, (.int .i64 a0.at_), (GV a0.err)] 151 (0, 0))]] (f_wire_Reader_Int_post a0 a1 v0_0 g0 res) := by
 unfold f_wire_Reader_Int at h
 refine Tri.enter (fn := Tryd.f60) Tryd.func60 rfl (Nat.le_of_ble_eq_true rfl) ?_
 intro F ρ hρ
 refine Sr ?_
 refine Pa (.int .i64 0) rfl rfl ?_
 refine Ns ?_
 refine Pm (pt g0 0) (hρ 0) rfl ?_
 refine Pm (.int .i64 a1) (hρ 1) rfl ?_
 refine Pu (.int .i64 (if a1 < 0 then (0 : Int) else a1)) (PO.max rfl rfl) rfl ?_
 refine Pu (.int .u64 (IntKind.u64.wrap (if a1 < 0 then (0 : Int) else a1))) (PO.conv us3 Tryd.underlying42 rfl) rfl ?_
 obtain ⟨⟨r21, r22, r23⟩, hr24, h⟩ := bnd h
 refine WL.eff (EO.call1 co92 (f_wire_Reader_Num_ok a0 (IntKind.u64.wrap (if a1 < 0 then (0 : Int) else a1)) _ _ _ h0_0 (r21, r22, r23) hr24) (args2 rfl rfl)) rfl ?_
 rintro _ M25 _ hle26 ⟨_, ⟨rfl, rfl⟩, rfl⟩
 have h0_0 := h0_0.mono hle26
 refine WL.a1 ?_
 refine Pu (.int .i64 (IntKind.i64.wrap r21)) (PO.conv us42 Tryd.underlying3 rfl) rfl ?_
 refine Pa (.int .i64 (IntKind.i64.wrap r21)) rfl rfl ?_
 refine Nt ?_
 refine WC.ret ?_
 exact WQ.returnsF h [[(g0, .cells #[v0_0, (.int .i64 r22), (GV r23)] 151 (0, 0))]] rfl (results1 rfl rfl) hle26 ⟨rfl, rfl⟩

noncomputable def f_wire_Reader_Err (a0 : T_wire_Reader) : Option GErr :=
  (some a0.err)
def f_wire_Reader_Err_post (a0 : T_wire_Reader) (v0_0 : Value) (g0 : Nat) : GErr → Value → IM → HL → Prop :=
  fun (r0 : GErr) (v : Value) (M' : IM) (H' : HL) => (GV r0) = v ∧ H' = [[(g0, .cells #[v0_0, (.int .i64 a0.at_), (GV a0.err)] 151 (0, 0))]]
theorem f_wire_Reader_Err_ok (a0 : T_wire_Reader) (M : IM) (v0_0 : Value) (g0 : Nat) (h0_0 : RS (Kd.int .u8) M v0_0 a0.b) (res : GErr) (h : f_wire_Reader_Err a0 = some res) :
    Tri Tryd.prog 61 #[(pt g0 0)] M [[(g0, .cells #[v0_0, (.int .i64 a0.at_), (GV a0.err)] 151 (0, 0))]] (f_wire_Reader_Err_post a0 v0_0 g0 res) := by
 unfold f_wire_Reader_Err at h
 refine Tri.enter (fn := Tryd.f61) Tryd.func61 rfl (Nat.le_of_ble_eq_true rfl) ?_
 intro F ρ hρ
 refine Sr ?_
 refine Pa (GV GErr.nil) rfl rfl ?_
 refine Ns ?_
 refine Pm (pt g0 0) (hρ 0) rfl ?_
 refine Pu (pt g0 0) (PO.nilCheck rfl) rfl ?_
 refine Pu (pt g0 2) (PO.fieldAddr fo151_2 rfl rfl) rfl ?_
 refine Pu (GV a0.err) (PO.loadB 0 pl28 rfl rfl rfl) rfl ?_
 refine Pa (GV a0.err) rfl rfl ?_
 refine Nt ?_
 refine WC.ret ?_
 exact WQ.returnsF h [[(g0, .cells #[v0_0, (.int .i64 a0.at_), (GV a0.err)] 151 (0, 0))]] rfl (results1 rfl rfl) (IM.le.refl _) ⟨rfl, rfl⟩

noncomputable def f_wire_Reader_Refuse (a0 : T_wire_Reader) (a1 : ByteArray) (a2 : Int) : Option GErr :=
  ((f_wire_Reader_fail a0 a1 a0.at_ a2).bind fun (r21 : GErr) => (some r21))
def f_wire_Reader_Refuse_post (a0 : T_wire_Reader) (a1 : ByteArray) (a2 : Int) (v0_0 : Value) (g0 : Nat) : GErr → Value → IM → HL → Prop :=
  fun (r0 : GErr) (v : Value) (M' : IM) (H' : HL) => (.tuple #[]) = v ∧ H' = [[(g0, .cells #[v0_0, (.int .i64 a0.at_), (GV r0)] 151 (0, 0))]]
theorem f_wire_Reader_Refuse_ok (a0 : T_wire_Reader) (a1 : ByteArray) (a2 : Int) (M : IM) (v0_0 : Value) (g0 : Nat) (h0_0 : RS (Kd.int .u8) M v0_0 a0.b) (res : GErr) (h : f_wire_Reader_Refuse a0 a1 a2 = some res) :
    Tri Tryd.prog 85 #[(pt g0 0), (.string a1), (.int .i64 a2)] M [[(g0, .cells #[v0_0, (.int .i64 a0.at_), (GV a0.err)] 151 (0, 0))]] (f_wire_Reader_Refuse_post a0 a1 a2 v0_0 g0 res) := by
 unfold f_wire_Reader_Refuse at h
 refine Tri.enter (fn := Tryd.f85) Tryd.func85 rfl (Nat.le_of_ble_eq_true rfl) ?_
 intro F ρ hρ
 refine WC.region ?_
 refine Pm (pt g0 0) (hρ 0) rfl ?_
 refine Pm (.string a1) (hρ 1) rfl ?_
 refine Pm (pt g0 0) (hρ 0) rfl ?_
 refine Pu (pt g0 0) (PO.nilCheck rfl) rfl ?_
 refine Pu (pt g0 1) (PO.fieldAddr fo151_1 rfl rfl) rfl ?_
 refine Pu (.int .i64 a0.at_) (PO.loadB 0 pl3 rfl rfl rfl) rfl ?_
 refine Pm (.int .i64 a2) (hρ 2) rfl ?_
 obtain ⟨r21, hr22, h⟩ := bnd h
 refine WL.eff (EO.call1 co87 (f_wire_Reader_fail_ok a0 a1 a0.at_ a2 _ _ _ h0_0 r21 hr22) (args4 rfl rfl rfl rfl)) rfl ?_
 rintro _ M23 _ hle24 ⟨_, ⟨rfl, rfl⟩, rfl⟩
 have h0_0 := h0_0.mono hle24
 refine WL.a1 ?_
 refine WL.nil ?_
 exact WQ.endsF h [[(g0, .cells #[v0_0, (.int .i64 a0.at_), (GV r21)] 151 (0, 0))]] rfl (results0 rfl) hle24 ⟨rfl, rfl⟩

noncomputable def f_record_Read_1 (a0 : Int) (a1 : Int) (a2q : T_wire_Reader) : Option (Int × Int × GErr) :=
  (if (decide ((andI .i64 a1 a0) = (0 : Int))) = true then (some ((0 : Int), a2q.at_, a2q.err)) else ((f_wire_Reader_Int a2q (1073741824 : Int)).bind fun (r22, r23, r24) => (some (r22, r23, r24))))
def f_record_Read_1_post (a0 : Int) (a1 : Int) (a2q : T_wire_Reader) (v2q_0 : Value) (g1 g2 g2q : Nat) : (Int × Int × GErr) → Value → IM → HL → Prop :=
  fun (p_ : (Int × Int × GErr)) (v : Value) (M' : IM) (H' : HL) => match p_ with | (r0, r1, r2) => (.int .i64 r0) = v ∧ H' = [[(g1, .cells #[(.int .i64 a1)] 3 (0, 0))], [(g2q, .cells #[v2q_0, (.int .i64 r1), (GV r2)] 151 (0, 0))], [(g2, .cells #[(.pointer (some ⟨g2q, 0, none⟩))] 112 (0, 0))]]
theorem f_record_Read_1_ok (a0 : Int) (a1 : Int) (a2q : T_wire_Reader) (M : IM) (v2q_0 : Value) (g1 g2 g2q : Nat) (h2q_0 : RS (Kd.int .u8) M v2q_0 a2q.b) (res : (Int × Int × GErr)) (h : f_record_Read_1 a0 a1 a2q = some res) :
    Tri Tryd.prog 108 #[(.int .i64 a0), (pt g1 0), (pt g2 0)] M [[(g1, .cells #[(.int .i64 a1)] 3 (0, 0))], [(g2q, .cells #[v2q_0, (.int .i64 a2q.at_), (GV a2q.err)] 151 (0, 0))], [(g2, .cells #[(pt g2q 0)] 112 (0, 0))]] (f_record_Read_1_post a0 a1 a2q v2q_0 g1 g2 g2q res) := by
 unfold f_record_Read_1 at h
 refine Tri.enter (fn := Tryd.f108) Tryd.func108 rfl (Nat.le_of_ble_eq_true rfl) ?_
 intro F ρ hρ
 refine Sr ?_
 refine Pa (.int .i64 0) rfl rfl ?_
 refine Nt ?_
 refine WC.seq ?_
 refine Sr ?_
 refine Pu (.int .i64 a1) (PO.loadB 0 pl3 (hρ 1) rfl rfl) rfl ?_
 refine Pm (.int .i64 a0) (hρ 0) rfl ?_
 refine Pu (.int .i64 (andI .i64 a1 a0)) (PO.and rfl rfl) rfl ?_
 refine Pu (.bool (decide ((andI .i64 a1 a0) = 0))) (PO.eql rfl rfl) rfl ?_
 refine Nt ?_
 refine WC.cond (b := decide ((andI .i64 a1 a0) = 0)) rfl (fun hb21 => ?_) (fun hb21 => ?_)
 have h := ite_t hb21 h
 refine Sr ?_
 refine Pa (.int .i64 0) rfl rfl ?_
 refine Nt ?_
 refine WC.ret ?_
 refine WQ.thenR ?_
 exact WQ.returnsF h [[(g1, .cells #[(.int .i64 a1)] 3 (0, 0))], [(g2q, .cells #[v2q_0, (.int .i64 a2q.at_), (GV a2q.err)] 151 (0, 0))], [(g2, .cells #[(pt g2q 0)] 112 (0, 0))]] rfl (results1 rfl rfl) (IM.le.refl _) ⟨rfl, rfl⟩
 have h := ite_f hb21 h
 refine WC.skip ?_
 refine WQ.thenC ?_
 refine Sr ?_
 refine Pu (pt g2q 0) (PO.loadB 2 pl112 (hρ 2) rfl rfl) rfl ?_
 obtain ⟨⟨r22, r23, r24⟩, hr25, h⟩ := bnd h
 refine WL.f1 ?_
 refine WL.eff (EO.call1 co60 (f_wire_Reader_Int_ok a2q (1073741824 : Int) _ _ _ h2q_0 (r22, r23, r24) hr25) (args2 rfl rfl)) rfl ?_
 rintro _ M26 _ hle27 ⟨_, ⟨rfl, rfl⟩, rfl⟩
 have h2q_0 := h2q_0.mono hle27
 refine WL.a1 ?_
 refine Pa (.int .i64 r22) rfl rfl ?_
 refine Nt ?_
 refine WC.ret ?_
 refine WQ.f2 ?_
 refine WQ.f1 ?_
 refine WQ.f2 ?_
 exact WQ.returnsF h [[(g1, .cells #[(.int .i64 a1)] 3 (0, 0))], [(g2q, .cells #[v2q_0, (.int .i64 r23), (GV r24)] 151 (0, 0))], [(g2, .cells #[(pt g2q 0)] 112 (0, 0))]] rfl (results1 rfl rfl) hle27 ⟨rfl, rfl⟩

noncomputable def f_wire_Reader_Flag (a0 : T_wire_Reader) : Option (Bool × Int × GErr) :=
  (((if (!a0.err.isNil) = true then (some (Sum.inl a0.err)) else (if (decide ((a0.b.length : Int) ≤ a0.at_)) = true then ((f_wire_Reader_fail a0 (⟨#[102, 108, 97, 103]⟩ : ByteArray) a0.at_ (3 : Int)).bind fun (r25 : GErr) => (some (Sum.inl r25))) else (grd (0 ≤ a0.at_ ∧ a0.at_ < a0.b.length) (if (decide ((1 : Int) < (rd a0.b a0.at_))) = true then ((f_wire_Reader_fail a0 (⟨#[102, 108, 97, 103]⟩ : ByteArray) a0.at_ (5 : Int)).bind fun (r37 : GErr) => (some (Sum.inl r37))) else (grd (0 ≤ IntKind.i64.wrap ((IntKind.i64.wrap (a0.at_ + (1 : Int))) - (1 : Int)) ∧ IntKind.i64.wrap ((IntKind.i64.wrap (a0.at_ + (1 : Int))) - (1 : Int)) < a0.b.length) (((some (decide ((rd a0.b (IntKind.i64.wrap ((IntKind.i64.wrap (a0.at_ + (1 : Int))) - (1 : Int)))) = (1 : Int)), IntKind.i64.wrap (a0.at_ + (1 : Int)), a0.err))).bind fun r => some (Sum.inr r))))))) : Option (GErr ⊕ (Bool × Int × GErr))).bind (Sum.elim (fun (x21 : GErr) => (some (false, a0.at_, x21))) some))
def f_wire_Reader_Flag_post (a0 : T_wire_Reader) (v0_0 : Value) (g0 : Nat) : (Bool × Int × GErr) → Value → IM → HL → Prop :=
  fun (p_ : (Bool × Int × GErr)) (v : Value) (M' : IM) (H' : HL) => match p_ with | (r0, r1, r2) => (.bool r0) = v ∧ H' = [[(g0, .cells #[v0_0, (.int .i64 r1), (GV r2)] 151 (0, 0))]]
theorem f_wire_Reader_Flag_ok (a0 : T_wire_Reader) (M : IM) (v0_0 : Value) (g0 : Nat) (h0_0 : RS (Kd.int .u8) M v0_0 a0.b) (res : (Bool × Int × GErr)) (h : f_wire_Reader_Flag a0 = some res) :
    Tri Tryd.prog 109 #[(pt g0 0)] M [[(g0, .cells #[v0_0, (.int .i64 a0.at_), (GV a0.err)] 151 (0, 0))]] (f_wire_Reader_Flag_post a0 v0_0 g0 res) := by
 unfold f_wire_Reader_Flag at h
 refine Tri.enter (fn := Tryd.f109) Tryd.func109 rfl (Nat.le_of_ble_eq_true rfl) ?_
 intro F ρ hρ
 refine Sr ?_
 refine Pa (.bool false) rfl rfl ?_
 refine Nt ?_
 obtain ⟨j22, hj22, h⟩ := bnd h
 refine WC.joinE (fun (x21 : GErr) ρ' M' H' => M.le M' ∧ [(g0, .cells #[v0_0, (.int .i64 a0.at_), (GV x21)] 151 (0, 0))] :: F = H') j22 ?_ ?_
 have h322 := h
 have h := hj22
 refine WC.block ?_
 refine Sr ?_
 refine Pm (pt g0 0) (hρ 0) rfl ?_
 refine Pu (pt g0 0) (PO.nilCheck rfl) rfl ?_
 refine Pu (pt g0 2) (PO.fieldAddr fo151_2 rfl rfl) rfl ?_
 refine Pu (GV a0.err) (PO.loadB 0 pl28 rfl rfl rfl) rfl ?_
 refine Pu (.bool (!a0.err.isNil)) (PO.errNotNil Tryd.underlying28 rfl) rfl ?_
 refine Pa (.bool (!a0.err.isNil)) rfl rfl ?_
 refine Nt ?_
 refine WC.cond (b := !a0.err.isNil) rfl (fun hb23 => ?_) (fun hb23 => ?_)
 have h := ite_t hb23 h
 refine WC.skip ?_
 refine WQ.blockN ?_
 refine WQ.thenFE h ?_
 exact ⟨(IM.le.refl _), rfl⟩
 have h := ite_f hb23 h
 refine WC.seq ?_
 refine WC.draw [0, 1, 3, 7, 0, 16, 48, 112, 240, 511, 1023] (.pure 0 (.pure 1 (.pure 2 (.pure 3 (.pure 4 (.pure 5 (.pure 6 (.pure 7 (.pure 8 (.pure 9 (.pure 10 .done))))))))))) mixed (by kernel_rfl) ?_
 refine Tp (pt g0 0) rfl (PO.move (hρ 0)) rfl ?_
 refine Tp (pt g0 0) rfl (PO.nilCheck rfl) rfl ?_
 refine Tp (pt g0 1) rfl (PO.fieldAddr fo151_1 rfl rfl) rfl ?_
 refine Tp (.int .i64 a0.at_) rfl (PO.loadB 0 pl3 rfl rfl rfl) rfl ?_
 refine Tp (pt g0 0) rfl (PO.move (hρ 0)) rfl ?_
 refine Tp (pt g0 0) rfl (PO.nilCheck rfl) rfl ?_
 refine Tp (pt g0 0) rfl (PO.fieldAddr fo151_0 rfl rfl) rfl ?_
 refine Tp v0_0 rfl (PO.loadB 0 pl26 rfl rfl rfl) rfl ?_
 refine Tp (.int .i64 (a0.b.length : Int)) rfl (PO.lenS Tryd.underlying26 rfl h0_0.len) rfl ?_
 refine Tp (.bool (decide ((a0.b.length : Int) ≤ a0.at_))) rfl (PO.geq rfl rfl) rfl ?_
 refine Tp (.bool (decide ((a0.b.length : Int) ≤ a0.at_))) rfl (PO.assign rfl) rfl ?_
 refine WT.fin ?_
 refine WQ.thenC ?_
 refine WC.cond (b := decide ((a0.b.length : Int) ≤ a0.at_)) rfl (fun hb24 => ?_) (fun hb24 => ?_)
 have h := ite_t hb24 h
 refine WC.region ?_
 refine Pm (pt g0 0) (hρ 0) rfl ?_
 refine Pm (pt g0 0) (hρ 0) rfl ?_
 refine Pu (pt g0 0) (PO.nilCheck rfl) rfl ?_
 refine Pu (pt g0 1) (PO.fieldAddr fo151_1 rfl rfl) rfl ?_
 refine Pu (.int .i64 a0.at_) (PO.loadB 0 pl3 rfl rfl rfl) rfl ?_
 obtain ⟨r25, hr26, h⟩ := bnd h
 refine WL.eff (EO.call1 co87 (f_wire_Reader_fail_ok a0 (⟨#[102, 108, 97, 103]⟩ : ByteArray) a0.at_ (3 : Int) _ _ _ h0_0 r25 hr26) (args4 rfl rfl rfl rfl)) rfl ?_
 rintro _ M27 _ hle28 ⟨_, ⟨rfl, rfl⟩, rfl⟩
 have h0_0 := h0_0.mono hle28
 refine WL.a1 ?_
 refine WL.nil ?_
 refine WQ.blockN ?_
 refine WQ.thenFE h ?_
 exact ⟨hle28, rfl⟩
 have h := ite_f hb24 h
 refine WC.seq ?_
 refine WC.draw [0, 1, 3, 7, 0, 16, 48, 112, 255, 511, 1023, 2047] (.pure 0 (.pure 1 (.pure 2 (.pure 3 (.pure 4 (.pure 5 (.pure 6 (.pure 7 (.pure 8 (.pure 9 (.pure 10 (.pure 11 .done)))))))))))) mixed (by kernel_rfl) ?_
 refine Tp (pt g0 0) rfl (PO.move (hρ 0)) rfl ?_
 refine Tp (pt g0 0) rfl (PO.nilCheck rfl) rfl ?_
 refine Tp (pt g0 0) rfl (PO.fieldAddr fo151_0 rfl rfl) rfl ?_
 refine Tp v0_0 rfl (PO.loadB 0 pl26 rfl rfl rfl) rfl ?_
 refine Tp (pt g0 0) rfl (PO.move (hρ 0)) rfl ?_
 refine Tp (pt g0 0) rfl (PO.nilCheck rfl) rfl ?_
 refine Tp (pt g0 1) rfl (PO.fieldAddr fo151_1 rfl rfl) rfl ?_
 refine Tp (.int .i64 a0.at_) rfl (PO.loadB 0 pl3 rfl rfl rfl) rfl ?_
 obtain ⟨hg29, h⟩ := grd_i h
 obtain ⟨p30, cs31, hat32, hrc33, hhas34⟩ := h0_0.at hg29.1 hg29.2 (by decide)
 obtain rfl := hrc33
 refine Tp (.pointer (some p30)) rfl (PO.indexAddr (n := a0.b.length) Tryd.underlying26 sz5 rfl rfl hg29.1 hg29.2 hat32) rfl ?_
 refine Tp (.int .u8 (rd a0.b a0.at_)) rfl (PO.loadM pl5 rfl (IM.has0 hhas34)) rfl ?_
 refine Tp (.bool (decide ((1 : Int) < (rd a0.b a0.at_)))) rfl (PO.gtr rfl rfl) rfl ?_
 refine Tp (.bool (decide ((1 : Int) < (rd a0.b a0.at_)))) rfl (PO.assign rfl) rfl ?_
 refine WT.fin ?_
 refine WQ.thenC ?_
 refine WC.cond (b := decide ((1 : Int) < (rd a0.b a0.at_))) rfl (fun hb36 => ?_) (fun hb36 => ?_)
 have h := ite_t hb36 h
 refine WC.region ?_
 refine Pm (pt g0 0) (hρ 0) rfl ?_
 refine Pm (pt g0 0) (hρ 0) rfl ?_
 refine Pu (pt g0 0) (PO.nilCheck rfl) rfl ?_
 refine Pu (pt g0 1) (PO.fieldAddr fo151_1 rfl rfl) rfl ?_
 refine Pu (.int .i64 a0.at_) (PO.loadB 0 pl3 rfl rfl rfl) rfl ?_
 obtain ⟨r37, hr38, h⟩ := bnd h
 refine WL.eff (EO.call1 co87 (f_wire_Reader_fail_ok a0 (⟨#[102, 108, 97, 103]⟩ : ByteArray) a0.at_ (5 : Int) _ _ _ h0_0 r37 hr38) (args4 rfl rfl rfl rfl)) rfl ?_
 rintro _ M39 _ hle40 ⟨_, ⟨rfl, rfl⟩, rfl⟩
 have h0_0 := h0_0.mono hle40
 refine WL.a1 ?_
 refine WL.nil ?_
 refine WQ.blockN ?_
 refine WQ.thenFE h ?_
 exact ⟨hle40, rfl⟩
 have h := ite_f hb36 h
 refine Sr ?_
 refine Pm (pt g0 0) (hρ 0) rfl ?_
 refine Pu (pt g0 0) (PO.nilCheck rfl) rfl ?_
 refine Pu (pt g0 1) (PO.fieldAddr fo151_1 rfl rfl) rfl ?_
 refine Pu (.int .i64 a0.at_) (PO.loadB 0 pl3 rfl rfl rfl) rfl ?_
 refine Pu (.int .i64 (IntKind.i64.wrap (a0.at_ + 1))) (PO.add rfl rfl) rfl ?_
 refine Pu (pt g0 0) (PO.nilCheck rfl) rfl ?_
 refine Pu (pt g0 1) (PO.fieldAddr fo151_1 rfl rfl) rfl ?_
 refine WL.eff (EO.storeL (v := (.int .i64 (IntKind.i64.wrap (a0.at_ + 1)))) (vl := [(.int .i64 (IntKind.i64.wrap (a0.at_ + 1)))]) (arr' := [v0_0, (.int .i64 (IntKind.i64.wrap (a0.at_ + 1))), (GV a0.err)]) rfl sz3 rfl rfl (onesOf (Ones.cons rfl Ones.nil)) rfl rfl rfl) rfl ?_
 rintro _ _ _ - ⟨rfl, rfl⟩
 refine Nt ?_
 refine WC.seq ?_
 refine WC.draw [0, 1, 3, 7, 0, 16, 48, 112, 240, 511, 1023, 2047, 4095] (.pure 0 (.pure 1 (.pure 2 (.pure 3 (.pure 4 (.pure 5 (.pure 6 (.pure 7 (.pure 8 (.pure 9 (.pure 10 (.pure 11 (.pure 12 .done))))))))))))) mixed (by kernel_rfl) ?_
 refine Tp (pt g0 0) rfl (PO.move (hρ 0)) rfl ?_
 refine Tp (pt g0 0) rfl (PO.nilCheck rfl) rfl ?_
 refine Tp (pt g0 0) rfl (PO.fieldAddr fo151_0 rfl rfl) rfl ?_
 refine Tp v0_0 rfl (PO.loadB 0 pl26 rfl rfl rfl) rfl ?_
 refine Tp (pt g0 0) rfl (PO.move (hρ 0)) rfl ?_
 refine Tp (pt g0 0) rfl (PO.nilCheck rfl) rfl ?_
 refine Tp (pt g0 1) rfl (PO.fieldAddr fo151_1 rfl rfl) rfl ?_
 refine Tp (.int .i64 (IntKind.i64.wrap (a0.at_ + 1))) rfl (PO.loadB 0 pl3 rfl rfl rfl) rfl ?_
 refine Tp (.int .i64 (IntKind.i64.wrap ((IntKind.i64.wrap (a0.at_ + 1)) - 1))) rfl (PO.sub rfl rfl) rfl ?_
 obtain ⟨hg41, h⟩ := grd_i h
 obtain ⟨p42, cs43, hat44, hrc45, hhas46⟩ := h0_0.at hg41.1 hg41.2 (by decide)
 obtain rfl := hrc45
 refine Tp (.pointer (some p42)) rfl (PO.indexAddr (n := a0.b.length) Tryd.underlying26 sz5 rfl rfl hg41.1 hg41.2 hat44) rfl ?_
 refine Tp (.int .u8 (rd a0.b (IntKind.i64.wrap ((IntKind.i64.wrap (a0.at_ + 1)) - 1)))) rfl (PO.loadM pl5 rfl (IM.has0 hhas46)) rfl ?_
 refine Tp (.bool (decide ((rd a0.b (IntKind.i64.wrap ((IntKind.i64.wrap (a0.at_ + 1)) - 1))) = 1))) rfl (PO.eql rfl rfl) rfl ?_
 refine Tp (.bool (decide ((rd a0.b (IntKind.i64.wrap ((IntKind.i64.wrap (a0.at_ + 1)) - 1))) = 1))) rfl (PO.assign rfl) rfl ?_
 refine WT.fin ?_
 refine WQ.thenC ?_
 refine WC.ret ?_
 refine WQ.blockR ?_
 refine WQ.thenR ?_
 have h := KK.early h h322
 exact WQ.returnsF h [[(g0, .cells #[v0_0, (.int .i64 (IntKind.i64.wrap (a0.at_ + 1))), (GV a0.err)] 151 (0, 0))]] rfl (results1 rfl rfl) (IM.le.refl _) ⟨rfl, rfl⟩
 rintro x21 ρ22 M22 H22 rfl ⟨hle22, rfl⟩
 have h := (Sum.elim_inl _ _ _).symm.trans h
 have h0_0 := h0_0.mono hle22
 refine Sr ?_
 refine Pa (.bool false) rfl rfl ?_
 refine Nt ?_
 refine WC.ret ?_
 exact WQ.returnsF h [[(g0, .cells #[v0_0, (.int .i64 a0.at_), (GV x21)] 151 (0, 0))]] rfl (results1 rfl rfl) hle22 ⟨rfl, rfl⟩

noncomputable def f_slices_Clone_byte_byte (a0 : (List Int)) : Option (List Int) :=
  (grd (([] : List Int).length + a0.length ≤ 274877906944) (some (([] : List Int) ++ a0)))
def f_slices_Clone_byte_byte_post (a0 : (List Int)) (v0 : Value) : (List Int) → Value → IM → HL → Prop :=
  fun (r0 : (List Int)) (v : Value) (M' : IM) (H' : HL) => ∃ vz0 cz0, vz0 = v ∧ H' = [cz0] ∧ OwnS (Kd.int .u8) M' vz0 r0 cz0
theorem f_slices_Clone_byte_byte_ok (a0 : (List Int)) (M : IM) (v0 : Value) (h0 : RS (Kd.int .u8) M v0 a0) (res : (List Int)) (h : f_slices_Clone_byte_byte a0 = some res) :
    Tri Tryd.prog 117 #[v0] M [] (f_slices_Clone_byte_byte_post a0 v0 res) := by
 unfold f_slices_Clone_byte_byte at h
 refine Tri.enter (fn := Tryd.f117) Tryd.func117 rfl (Nat.le_of_ble_eq_true rfl) ?_
 intro F ρ hρ
 refine Sr ?_
 refine Pa (.slice none 0 0) rfl rfl ?_
 refine Nt ?_
 refine WC.seq ?_
 refine Sr ?_
 refine Pm v0 (hρ 0) rfl ?_
 refine Pu (.bool (nilS v0)) (PO.sliceNil Tryd.underlying26 rfl h0.len rfl) rfl ?_
 refine Nt ?_
 refine WC.cond (b := nilS v0) rfl (fun hb21 => ?_) (fun hb21 => ?_)
 obtain rfl := h0.nilxs (by decide) hb21
 have h := Eq.trans (a := ((some []) : Option (List Int))) (by simp [grd]) h
 refine Sr ?_
 refine Pa (.slice none 0 0) rfl rfl ?_
 refine Nt ?_
 refine WC.ret ?_
 refine WQ.thenR ?_
 refine WQ.e0 ?_
 exact WQ.returnsF h [[]] rfl (results1 rfl rfl) (IM.le.refl _) ⟨(.slice none 0 0), [], rfl, rfl, (OwnS.nil _ _)⟩
 refine WC.skip ?_
 refine WQ.thenC ?_
 refine Sr ?_
 refine WL.eff (EO.buildSliceL (cl := []) Tryd.underlying26 iz5 rfl Parts.nil rfl) rfl ?_
 rintro _ _ _ - ⟨rfl, g23, rfl, rfl⟩
 have h25 : OwnS (Kd.int .u8) M (.slice (some ⟨g23, 0, none⟩) 0 0) [] [(g23, .cells #[] 5 (0, 0))] := OwnS.rows (css := []) Rows.nil rfl rfl
 refine Pm v0 (hρ 0) rfl ?_
 obtain ⟨hg29, h⟩ := grd_i h
 refine WL.eff (EO.append (dd := (Kd.int .u8)) (xs := []) (ys := a0) Tryd.underlying26 Tryd.underlying26 in5 rfl (appB (by decide) hg29) (by decide) rfl rfl h25 (h0.src _)) rfl ?_
 rintro v28 _ _ - ⟨rfl, c26, rfl, h27⟩
 refine Pa v28 rfl rfl ?_
 refine Nt ?_
 refine WC.ret ?_
 exact WQ.returnsF h [c26] rfl (results1 rfl rfl) (IM.le.refl _) ⟨v28, c26, rfl, rfl, h27⟩

noncomputable def f_wire_Reader_Text (a0 : T_wire_Reader) (a1 : Int) : Option ((List Int) × Int × GErr) :=
  ((f_wire_Reader_Int a0 a1).bind fun (r21, r22, r23) => (if (!r23.isNil) = true then (some ([], r22, r23)) else (if (decide ((IntKind.i64.wrap ((a0.b.length : Int) - r22)) < r21)) = true then ((f_wire_Reader_fail (⟨a0.b, a0.at_, r23⟩ : T_wire_Reader) (⟨#[116, 101, 120, 116]⟩ : ByteArray) a0.at_ (3 : Int)).bind fun (r31 : GErr) => (some ([], a0.at_, r31))) else (grd (0 ≤ IntKind.i64.wrap ((IntKind.i64.wrap (r22 + r21)) - r21) ∧ IntKind.i64.wrap ((IntKind.i64.wrap (r22 + r21)) - r21) ≤ IntKind.i64.wrap (r22 + r21) ∧ IntKind.i64.wrap (r22 + r21) ≤ (a0.b.length : Int)) ((f_slices_Clone_byte_byte (sub a0.b (IntKind.i64.wrap ((IntKind.i64.wrap (r22 + r21)) - r21)) (IntKind.i64.wrap (r22 + r21)))).bind fun (r38 : (List Int)) => (some (r38, IntKind.i64.wrap (r22 + r21), r23)))))))
def f_wire_Reader_Text_post (a0 : T_wire_Reader) (a1 : Int) (v0_0 : Value) (g0 : Nat) : ((List Int) × Int × GErr) → Value → IM → HL → Prop :=
  fun (p_ : ((List Int) × Int × GErr)) (v : Value) (M' : IM) (H' : HL) => match p_ with | (r0, r1, r2) => ∃ vz0 cz0, vz0 = v ∧ H' = [[(g0, .cells #[v0_0, (.int .i64 r1), (GV r2)] 151 (0, 0))], cz0] ∧ OwnS (Kd.int .u8) M' vz0 r0 cz0
theorem f_wire_Reader_Text_ok (a0 : T_wire_Reader) (a1 : Int) (M : IM) (v0_0 : Value) (g0 : Nat) (h0_0 : RS (Kd.int .u8) M v0_0 a0.b) (res : ((List Int) × Int × GErr)) (h : f_wire_Reader_Text a0 a1 = some res) :
    Tri Tryd.prog 111 #[(pt g0 0), (.int .i64 a1)] M [[(g0, .cells #[v0_0, (.int .i64 a0.at_), (GV a0.err)] 151 (0, 0))]] (f_wire_Reader_Text_post a0 a1 v0_0 g0 res) := by
 unfold f_wire_Reader_Text at h
 refine Tri.enter (fn := Tryd.f111) Tryd.func111 rfl (Nat.le_of_ble_eq_true rfl) ?_
 intro F ρ hρ
 refine Sr ?_
 refine Pa (.slice none 0 0) rfl rfl ?_
 refine Ns ?_
 refine Pm (pt g0 0) (hρ 0) rfl ?_
 refine Pu (pt g0 0) (PO.nilCheck rfl) rfl ?_
 refine Pu (pt g0 1) (PO.fieldAddr fo151_1 rfl rfl) rfl ?_
 refine Pu (.int .i64 a0.at_) (PO.loadB 0 pl3 rfl rfl rfl) rfl ?_
 refine Pa (.int .i64 a0.at_) rfl rfl ?_
 refine Ns ?_
 refine Pm (pt g0 0) (hρ 0) rfl ?_
 refine Pm (.int .i64 a1) (hρ 1) rfl ?_
 obtain ⟨⟨r21, r22, r23⟩, hr24, h⟩ := bnd h
 refine WL.eff (EO.call1 co60 (f_wire_Reader_Int_ok a0 a1 _ _ _ h0_0 (r21, r22, r23) hr24) (args2 rfl rfl)) rfl ?_
 rintro _ M25 _ hle26 ⟨_, ⟨rfl, rfl⟩, rfl⟩
 have h0_0 := h0_0.mono hle26
 refine WL.a1 ?_
 refine Pa (.int .i64 r21) rfl rfl ?_
 refine Nt ?_
 refine WC.seq ?_
 refine Sr ?_
 refine Pm (pt g0 0) (hρ 0) rfl ?_
 refine Pu (pt g0 0) (PO.nilCheck rfl) rfl ?_
 refine Pu (pt g0 2) (PO.fieldAddr fo151_2 rfl rfl) rfl ?_
 refine Pu (GV r23) (PO.loadB 0 pl28 rfl rfl rfl) rfl ?_
 refine Pu (.bool (!r23.isNil)) (PO.errNotNil Tryd.underlying28 rfl) rfl ?_
 refine Nt ?_
 refine WC.cond (b := !r23.isNil) rfl (fun hb28 => ?_) (fun hb28 => ?_)
 have h := ite_t hb28 h
 refine Sr ?_
 refine Pa (.slice none 0 0) rfl rfl ?_
 refine Nt ?_
 refine WC.ret ?_
 refine WQ.thenR ?_
 refine WQ.e0 ?_
 refine WQ.f1 ?_
 exact WQ.returnsF h [[(g0, .cells #[v0_0, (.int .i64 r22), (GV r23)] 151 (0, 0))], []] rfl (results1 rfl rfl) hle26 ⟨(.slice none 0 0), [], rfl, rfl, (OwnS.nil _ _)⟩
 have h := ite_f hb28 h
 refine WC.skip ?_
 refine WQ.thenC ?_
 refine WC.seq ?_
 refine WC.seq ?_
 refine WC.draw [0, 0, 2, 6, 14, 30, 0, 64, 192, 448, 1022, 2047] (.pure 0 (.pure 1 (.pure 2 (.pure 3 (.pure 4 (.pure 5 (.pure 6 (.pure 7 (.pure 8 (.pure 9 (.pure 10 (.pure 11 .done)))))))))))) mixed (by kernel_rfl) ?_
 refine Tp (.int .i64 r21) rfl (PO.move rfl) rfl ?_
 refine Tp (pt g0 0) rfl (PO.move (hρ 0)) rfl ?_
 refine Tp (pt g0 0) rfl (PO.nilCheck rfl) rfl ?_
 refine Tp (pt g0 0) rfl (PO.fieldAddr fo151_0 rfl rfl) rfl ?_
 refine Tp v0_0 rfl (PO.loadB 0 pl26 rfl rfl rfl) rfl ?_
 refine Tp (.int .i64 (a0.b.length : Int)) rfl (PO.lenS Tryd.underlying26 rfl h0_0.len) rfl ?_
 refine Tp (pt g0 0) rfl (PO.move (hρ 0)) rfl ?_
 refine Tp (pt g0 0) rfl (PO.nilCheck rfl) rfl ?_
 refine Tp (pt g0 1) rfl (PO.fieldAddr fo151_1 rfl rfl) rfl ?_
 refine Tp (.int .i64 r22) rfl (PO.loadB 0 pl3 rfl rfl rfl) rfl ?_
 refine Tp (.int .i64 (IntKind.i64.wrap ((a0.b.length : Int) - r22))) rfl (PO.sub rfl rfl) rfl ?_
 refine Tp (.bool (decide ((IntKind.i64.wrap ((a0.b.length : Int) - r22)) < r21))) rfl (PO.gtr rfl rfl) rfl ?_
 refine WT.fin ?_
 refine WQ.thenC ?_
 refine WC.cond (b := decide ((IntKind.i64.wrap ((a0.b.length : Int) - r22)) < r21)) rfl (fun hb30 => ?_) (fun hb30 => ?_)
 have h := ite_t hb30 h
 refine Sr ?_
 refine Pm (pt g0 0) (hρ 0) rfl ?_
 refine Pm (.int .i64 a0.at_) rfl rfl ?_
 refine Pu (pt g0 0) (PO.nilCheck rfl) rfl ?_
 refine Pu (pt g0 1) (PO.fieldAddr fo151_1 rfl rfl) rfl ?_
 refine WL.eff (EO.storeL (v := (.int .i64 a0.at_)) (vl := [(.int .i64 a0.at_)]) (arr' := [v0_0, (.int .i64 a0.at_), (GV r23)]) rfl sz3 rfl rfl (onesOf (Ones.cons rfl Ones.nil)) rfl rfl rfl) rfl ?_
 rintro _ _ _ - ⟨rfl, rfl⟩
 refine Ns ?_
 refine Pm (pt g0 0) (hρ 0) rfl ?_
 refine Pm (.int .i64 a0.at_) rfl rfl ?_
 obtain ⟨r31, hr32, h⟩ := bnd h
 refine WL.eff (EO.call1 co87 (f_wire_Reader_fail_ok (⟨a0.b, a0.at_, r23⟩ : T_wire_Reader) (⟨#[116, 101, 120, 116]⟩ : ByteArray) a0.at_ (3 : Int) _ _ _ h0_0 r31 hr32) (args4 rfl rfl rfl rfl)) rfl ?_
 rintro _ M33 _ hle34 ⟨_, ⟨rfl, rfl⟩, rfl⟩
 have h0_0 := h0_0.mono hle34
 refine WL.a1 ?_
 refine Ns ?_
 refine Pa (.slice none 0 0) rfl rfl ?_
 refine Nt ?_
 refine WC.ret ?_
 refine WQ.thenR ?_
 refine WQ.e0 ?_
 refine WQ.f1 ?_
 exact WQ.returnsF h [[(g0, .cells #[v0_0, (.int .i64 a0.at_), (GV r31)] 151 (0, 0))], []] rfl (results1 rfl rfl) (hle26.trans hle34) ⟨(.slice none 0 0), [], rfl, rfl, (OwnS.nil _ _)⟩
 have h := ite_f hb30 h
 refine WC.skip ?_
 refine WQ.thenC ?_
 refine Sr ?_
 refine Pm (pt g0 0) (hρ 0) rfl ?_
 refine Pu (pt g0 0) (PO.nilCheck rfl) rfl ?_
 refine Pu (pt g0 1) (PO.fieldAddr fo151_1 rfl rfl) rfl ?_
 refine Pu (.int .i64 r22) (PO.loadB 0 pl3 rfl rfl rfl) rfl ?_
 refine Pm (.int .i64 r21) rfl rfl ?_
 refine Pu (.int .i64 (IntKind.i64.wrap (r22 + r21))) (PO.add rfl rfl) rfl ?_
 refine Pu (pt g0 0) (PO.nilCheck rfl) rfl ?_
 refine Pu (pt g0 1) (PO.fieldAddr fo151_1 rfl rfl) rfl ?_
 refine WL.eff (EO.storeL (v := (.int .i64 (IntKind.i64.wrap (r22 + r21)))) (vl := [(.int .i64 (IntKind.i64.wrap (r22 + r21)))]) (arr' := [v0_0, (.int .i64 (IntKind.i64.wrap (r22 + r21))), (GV r23)]) rfl sz3 rfl rfl (onesOf (Ones.cons rfl Ones.nil)) rfl rfl rfl) rfl ?_
 rintro _ _ _ - ⟨rfl, rfl⟩
 refine Nt ?_
 refine WC.seq ?_
 refine WC.draw [0, 1, 3, 7, 0, 16, 48, 112, 0, 496, 0, 1024, 3072, 7168, 16383, 32767, 65535] (.pure 0 (.pure 1 (.pure 2 (.pure 3 (.pure 4 (.pure 5 (.pure 6 (.pure 7 (.pure 8 (.pure 9 (.pure 10 (.pure 11 (.pure 12 (.pure 13 (.pure 14 (.alt 15 (.pure 16 .done) .none)))))))))))))))) mixed (by kernel_rfl) ?_
 refine Tp (pt g0 0) rfl (PO.move (hρ 0)) rfl ?_
 refine Tp (pt g0 0) rfl (PO.nilCheck rfl) rfl ?_
 refine Tp (pt g0 0) rfl (PO.fieldAddr fo151_0 rfl rfl) rfl ?_
 refine Tp v0_0 rfl (PO.loadB 0 pl26 rfl rfl rfl) rfl ?_
 refine Tp (pt g0 0) rfl (PO.move (hρ 0)) rfl ?_
 refine Tp (pt g0 0) rfl (PO.nilCheck rfl) rfl ?_
 refine Tp (pt g0 1) rfl (PO.fieldAddr fo151_1 rfl rfl) rfl ?_
 refine Tp (.int .i64 (IntKind.i64.wrap (r22 + r21))) rfl (PO.loadB 0 pl3 rfl rfl rfl) rfl ?_
 refine Tp (.int .i64 r21) rfl (PO.move rfl) rfl ?_
 refine Tp (.int .i64 (IntKind.i64.wrap ((IntKind.i64.wrap (r22 + r21)) - r21))) rfl (PO.sub rfl rfl) rfl ?_
 refine Tp (pt g0 0) rfl (PO.move (hρ 0)) rfl ?_
 refine Tp (pt g0 0) rfl (PO.nilCheck rfl) rfl ?_
 refine Tp (pt g0 1) rfl (PO.fieldAddr fo151_1 rfl rfl) rfl ?_
 refine Tp (.int .i64 (IntKind.i64.wrap (r22 + r21))) rfl (PO.loadB 0 pl3 rfl rfl rfl) rfl ?_
 obtain ⟨hg36, h⟩ := grd_i h
 have h37 := h0_0.sub hg36.1 hg36.2.1 hg36.2.2
 refine Tp (slV v0_0 1 (IntKind.i64.wrap ((IntKind.i64.wrap (r22 + r21)) - r21)).toNat (IntKind.i64.wrap (r22 + r21)).toNat) rfl (PO.slice (n := a0.b.length) (l := (IntKind.i64.wrap ((IntKind.i64.wrap (r22 + r21)) - r21)).toNat) (h := (IntKind.i64.wrap (r22 + r21)).toNat) Tryd.underlying26 sz5 rfl h0_0.len h0_0.cap ⟨_, _, rfl, hg36.1, rfl⟩ ⟨_, _, rfl, (Int.le_trans hg36.1 hg36.2.1), rfl⟩ (Int.toNat_le_toNat hg36.2.1) (toNat_le_len hg36.2.2)) rfl ?_
 obtain ⟨r38, hr39, h⟩ := bnd h
 refine WT.alt rfl (EO.call0 co117 (f_slices_Clone_byte_byte_ok (sub a0.b (IntKind.i64.wrap ((IntKind.i64.wrap (r22 + r21)) - r21)) (IntKind.i64.wrap (r22 + r21))) _ _ h37 r38 hr39) (args1 rfl)) rfl ?_ ?_
 rintro _ M40 _ hle41 ⟨_, ⟨vq42, cq42, rfl, rfl, hq42⟩, rfl⟩
 have h0_0 := h0_0.mono hle41
 have h37 := h37.mono hle41
 refine ⟨(StabL.anc rfl (StabL.anc rfl (StabL.anc rfl (StabL.anc rfl (StabL.anc rfl (StabL.anc rfl (StabL.anc rfl (StabL.anc rfl (StabL.anc rfl (StabL.anc rfl (StabL.anc rfl (StabL.anc rfl (StabL.anc rfl (StabL.anc rfl (StabL.anc rfl trivial))))))))))))))), ?_⟩
 refine WT.a1 ?_
 refine Tp vq42 rfl (PO.assign rfl) rfl ?_
 refine WT.fin ?_
 refine WQ.thenC ?_
 refine WC.ret ?_
 refine WQ.f1 ?_
 exact WQ.returnsF h [[(g0, .cells #[v0_0, (.int .i64 (IntKind.i64.wrap (r22 + r21))), (GV r23)] 151 (0, 0))], cq42] rfl (results1 rfl rfl) (hle26.trans hle41) ⟨vq42, cq42, rfl, rfl, hq42⟩
 exact WT.no


end Go.Proofs.YtjiffdgidodebaaDoor.G
