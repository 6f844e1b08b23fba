/- Go functions: what they come to, and that they do. Printed by a program of the session (gen). -/
import Derived.Test.YtmifmgpfjamdkaaGF
import Derived.Test.YtmifmgpfjamdkaaG0
set_option linter.unusedVariables false
set_option linter.unusedSimpArgs false
namespace Go.Proofs.Ytmifmgpfjamdkaa.G
open Go Go.KK

noncomputable def f_ref03_bit (a0 : (List Int)) (a1 : Int) : Option Int :=
  (((if (decide (a1 < (IntKind.i64.wrap ((8 : Int) * (a0.length : Int))))) = true then (grd (0 ≤ IntKind.i64.wrap (a1.tdiv (8 : Int)) ∧ IntKind.i64.wrap (a1.tdiv (8 : Int)) < a0.length) (grd (0 ≤ a1.tmod (8 : Int)) (some (andI .u32 (shrI .u32 (IntKind.u32.wrap (rd a0 (IntKind.i64.wrap (a1.tdiv (8 : Int))))) (a1.tmod (8 : Int))) (1 : Int))))) else (some (0 : Int))) : Option Int).bind fun (x1 : Int) => (((if (decide (a1 < (32 : Int))) = true then (some (IntKind.u32.wrap ((1 : Int) - x1))) else (some x1)) : Option Int).bind fun (x12 : Int) => (some x12)))
def f_ref03_bit_post (a0 : (List Int)) (a1 : Int) (v0 : Value) : Int → Value → IM → HL → Prop :=
  fun (r0 : Int) (v : Value) (M' : IM) (H' : HL) => (.int .u32 r0) = v ∧ H' = []
set_option maxHeartbeats 1000000 in
set_option maxRecDepth 100000 in
theorem f_ref03_bit_ok (a0 : (List Int)) (a1 : Int) (M : IM) (v0 : Value) (h0 : RS (Kd.int .u8) M v0 a0) (res : Int) (h : f_ref03_bit a0 a1 = some res) :
    Tri Try.prog 31 #[v0, (.int .i64 a1)] M [] (f_ref03_bit_post a0 a1 v0 res) := by
  unfold f_ref03_bit at h
  refine Tri.enter (fn := Try.f31) Try.func31 rfl (Nat.le_of_ble_eq_true rfl) ?_
  intro F ρ hρ
  refine WC.seq ?_
  refine WC.region ?_
  refine WL.pure (v := (.int .u32 (0 : Int))) (PO.assign rfl) rfl ?_
  refine WL.nil ?_
  refine WQ.thenC ?_
  refine WC.seq ?_
  refine WC.region ?_
  refine WL.pure (v := (.int .u32 (0 : Int))) (PO.assign rfl) rfl ?_
  refine WL.nil ?_
  refine WQ.thenC ?_
  obtain ⟨x1, hj2, h⟩ := bnd h
  refine WC.joinF (fun (x1 : Int) (ρ' : Nat → Value) (M' : IM) (H' : HL) => M.le M' ∧ F = H' ∧ ρ' 1 = (.int .i64 a1) ∧ ρ' 5 = (.int .u32 x1)) x1 ?_ ?_
  · have h32 := h
    have h := hj2
    refine WC.seq ?_
    refine WC.region ?_
    refine WL.pure (v := (.int .i64 a1)) (PO.move (hρ 1)) rfl ?_
    refine WL.pure (v := v0) (PO.move (hρ 0)) rfl ?_
    refine WL.pure (v := (.int .i64 (a0.length : Int))) (PO.lenS Try.underlying22 rfl h0.len) rfl ?_
    refine WL.pure (v := (.int .i64 (IntKind.i64.wrap ((8 : Int) * (a0.length : Int))))) (PO.mul rfl rfl) rfl ?_
    refine WL.pure (v := (.bool (decide (a1 < (IntKind.i64.wrap ((8 : Int) * (a0.length : Int))))))) (PO.lss rfl rfl) rfl ?_
    refine WL.nil ?_
    refine WQ.thenC ?_
    refine WC.cond (b := decide (a1 < (IntKind.i64.wrap ((8 : Int) * (a0.length : Int))))) rfl (fun hb3 => ?_) (fun hb3 => ?_)
    · have h := ite_t hb3 h
      refine WC.region ?_
      refine WL.pure (v := v0) (PO.move (hρ 0)) rfl ?_
      refine WL.pure (v := (.int .i64 a1)) (PO.move (hρ 1)) rfl ?_
      refine WL.pure (v := (.int .i64 (IntKind.i64.wrap (a1.tdiv (8 : Int))))) (PO.quo rfl rfl (by decide)) rfl ?_
      obtain ⟨hg4, h⟩ := grd_i h
      obtain ⟨p5, cs6, hat7, hrc8, hhas9⟩ := h0.at hg4.1 hg4.2 (by decide)
      obtain rfl := hrc8
      refine WL.pure (v := (.pointer (some p5))) (PO.indexAddr (n := a0.length) Try.underlying22 sz5 rfl rfl hg4.1 hg4.2 hat7) rfl ?_
      refine WL.pure (v := (.int .u8 (rd a0 (IntKind.i64.wrap (a1.tdiv (8 : Int)))))) (PO.loadM pl5 rfl (IM.has0 hhas9)) rfl ?_
      refine WL.pure (v := (.int .u32 (IntKind.u32.wrap (rd a0 (IntKind.i64.wrap (a1.tdiv (8 : Int))))))) (PO.conv us5 Try.underlying24 rfl) rfl ?_
      refine WL.pure (v := (.int .i64 a1)) (PO.move (hρ 1)) rfl ?_
      refine WL.pure (v := (.int .i64 (a1.tmod (8 : Int)))) (PO.rem rfl rfl (by decide)) rfl ?_
      obtain ⟨hg11, h⟩ := grd_i h
      refine WL.pure (v := (.int .u32 (shrI .u32 (IntKind.u32.wrap (rd a0 (IntKind.i64.wrap (a1.tdiv (8 : Int))))) (a1.tmod (8 : Int))))) (PO.shr rfl rfl hg11) rfl ?_
      refine WL.pure (v := (.int .u32 (andI .u32 (shrI .u32 (IntKind.u32.wrap (rd a0 (IntKind.i64.wrap (a1.tdiv (8 : Int))))) (a1.tmod (8 : Int))) (1 : Int)))) (PO.and rfl rfl) rfl ?_
      refine WL.pure (v := (.int .u32 (andI .u32 (shrI .u32 (IntKind.u32.wrap (rd a0 (IntKind.i64.wrap (a1.tdiv (8 : Int))))) (a1.tmod (8 : Int))) (1 : Int)))) (PO.assign rfl) rfl ?_
      refine WL.nil ?_
      obtain rfl := Option.some.inj h
      refine WQ.thenJ ?_
      exact ⟨(IM.le.refl _), rfl, (hρ 1), rfl⟩
    · have h := ite_f hb3 h
      refine WC.skip ?_
      obtain rfl := Option.some.inj h
      refine WQ.thenJ ?_
      exact ⟨(IM.le.refl _), rfl, (hρ 1), rfl⟩
  · rintro ρ2 M2 H2 ⟨hle2, rfl, hs2_1, hs2_5⟩
    obtain ⟨x12, hj13, h⟩ := bnd h
    refine WC.joinF (fun (x12 : Int) (ρ' : Nat → Value) (M' : IM) (H' : HL) => M2.le M' ∧ F = H' ∧ ρ' 5 = (.int .u32 x12)) x12 ?_ ?_
    · have h313 := h
      have h := hj13
      refine WC.seq ?_
      refine WC.region ?_
      refine WL.pure (v := (.int .i64 a1)) (PO.move hs2_1) rfl ?_
      refine WL.pure (v := (.bool (decide (a1 < (32 : Int))))) (PO.lss rfl rfl) rfl ?_
      refine WL.nil ?_
      refine WQ.thenC ?_
      refine WC.cond (b := decide (a1 < (32 : Int))) rfl (fun hb14 => ?_) (fun hb14 => ?_)
      · have h := ite_t hb14 h
        refine WC.region ?_
        refine WL.pure (v := (.int .u32 x1)) (PO.move hs2_5) rfl ?_
        refine WL.pure (v := (.int .u32 (IntKind.u32.wrap ((1 : Int) - x1)))) (PO.sub rfl rfl) rfl ?_
        refine WL.pure (v := (.int .u32 (IntKind.u32.wrap ((1 : Int) - x1)))) (PO.assign rfl) rfl ?_
        refine WL.nil ?_
        obtain rfl := Option.some.inj h
        refine WQ.thenJ ?_
        exact ⟨(IM.le.refl _), rfl, rfl⟩
      · have h := ite_f hb14 h
        refine WC.skip ?_
        obtain rfl := Option.some.inj h
        refine WQ.thenJ ?_
        exact ⟨(IM.le.refl _), rfl, hs2_5⟩
    · rintro ρ13 M13 H13 ⟨hle13, rfl, hs13_5⟩
      refine WC.seq ?_
      refine WC.region ?_
      refine WL.pure (v := (.int .u32 x12)) (PO.move hs13_5) rfl ?_
      refine WL.pure (v := (.int .u32 x12)) (PO.assign rfl) rfl ?_
      refine WL.nil ?_
      refine WQ.thenC ?_
      refine WC.ret ?_
      exact WQ.returnsF h [] rfl (results1 rfl rfl) (hle2.trans hle13) ⟨rfl, rfl⟩

noncomputable def f_ref03_Sum_l0 (a0 : (List Int)) (s_ : (Int × Int)) : Option ((Int × Int) ⊕ Int) :=
  match s_ with
  | (x4, x5) =>
    (if (decide (x5 < (IntKind.i64.wrap ((IntKind.i64.wrap ((8 : Int) * (a0.length : Int))) + (32 : Int))))) = true then ((((f_ref03_bit a0 x5).bind fun (r10 : Int) => (if (decide ((andI .u32 x4 (1 : Int)) = (1 : Int))) = true then (some (xorI .u32 (IntKind.u32.wrap ((IntKind.u32.wrap (x4.tdiv (2 : Int))) + (IntKind.u32.wrap (r10 * (2147483648 : Int))))) (2197175160 : Int))) else (some (IntKind.u32.wrap ((IntKind.u32.wrap (x4.tdiv (2 : Int))) + (IntKind.u32.wrap (r10 * (2147483648 : Int)))))))) : Option Int).bind fun (x8 : Int) => (some (Sum.inl (x8, IntKind.i64.wrap (x5 + (1 : Int)))))) else (some (Sum.inr x4)))
noncomputable def f_ref03_Sum (a0 : (List Int)) : Option Int :=
  ((((iter (f_ref03_Sum_l0 a0) ((0 : Int), (0 : Int))).bind (fun (x6 : Int) => (some x6))) : Option Int).bind fun (x1 : Int) => (some (IntKind.u32.wrap ((4294967295 : Int) - x1))))
def f_ref03_Sum_post (a0 : (List Int)) (v0 : Value) : Int → Value → IM → HL → Prop :=
  fun (r0 : Int) (v : Value) (M' : IM) (H' : HL) => (.int .u32 r0) = v ∧ H' = []
set_option maxHeartbeats 1000000 in
set_option maxRecDepth 100000 in
theorem f_ref03_Sum_ok (a0 : (List Int)) (M : IM) (v0 : Value) (h0 : RS (Kd.int .u8) M v0 a0) (res : Int) (h : f_ref03_Sum a0 = some res) :
    Tri Try.prog 13 #[v0] M [] (f_ref03_Sum_post a0 v0 res) := by
  unfold f_ref03_Sum at h
  refine Tri.enter (fn := Try.f13) Try.func13 rfl (Nat.le_of_ble_eq_true rfl) ?_
  intro F ρ hρ
  refine WC.seq ?_
  refine WC.region ?_
  refine WL.pure (v := (.int .u32 (0 : Int))) (PO.assign rfl) rfl ?_
  refine WL.nil ?_
  refine WQ.thenC ?_
  refine WC.seq ?_
  refine WC.region ?_
  refine WL.pure (v := (.int .u32 (0 : Int))) (PO.assign rfl) rfl ?_
  refine WL.nil ?_
  refine WQ.thenC ?_
  obtain ⟨x1, hj2, h⟩ := bnd h
  refine WC.joinF (fun (x1 : Int) (ρ' : Nat → Value) (M' : IM) (H' : HL) => M.le M' ∧ F = H' ∧ ρ' 3 = (.int .u32 x1)) x1 ?_ ?_
  · have h32 := h
    have h := hj2
    refine WC.seq ?_
    refine WC.region ?_
    refine WL.pure (v := (.int .i64 (0 : Int))) (PO.assign rfl) rfl ?_
    refine WL.nil ?_
    refine WQ.thenC ?_
    refine WC.block ?_
    obtain ⟨e3, he3, hK3⟩ := bnd h
    clear h
    refine WC.loop he3 (fun (p_ : (Int × Int)) (ρ' : Nat → Value) (M' : IM) (H' : HL) => match p_ with | (x4, x5) => M.le M' ∧ F = H' ∧ ρ' 0 = v0 ∧ ρ' 3 = (.int .u32 x4) ∧ ρ' 4 = (.int .i64 x5)) ?_ ?_
    · exact ⟨(IM.le.refl _), rfl, (hρ 0), rfl, rfl⟩
    · rintro ⟨x4, x5⟩ o3 ρ3 M3 H3 h ⟨hle3, rfl, hs3_0, hs3_3, hs3_4⟩
      unfold f_ref03_Sum_l0 at h
      have h0 := h0.mono hle3
      refine WC.seq ?_
      refine WC.seq ?_
      refine WC.region ?_
      refine WL.pure (v := (.int .i64 x5)) (PO.move hs3_4) rfl ?_
      refine WL.pure (v := v0) (PO.move hs3_0) rfl ?_
      refine WL.pure (v := (.int .i64 (a0.length : Int))) (PO.lenS Try.underlying22 rfl h0.len) rfl ?_
      refine WL.pure (v := (.int .i64 (IntKind.i64.wrap ((8 : Int) * (a0.length : Int))))) (PO.mul rfl rfl) rfl ?_
      refine WL.pure (v := (.int .i64 (IntKind.i64.wrap ((IntKind.i64.wrap ((8 : Int) * (a0.length : Int))) + (32 : Int))))) (PO.add rfl rfl) rfl ?_
      refine WL.pure (v := (.bool (decide (x5 < (IntKind.i64.wrap ((IntKind.i64.wrap ((8 : Int) * (a0.length : Int))) + (32 : Int))))))) (PO.lss rfl rfl) rfl ?_
      refine WL.nil ?_
      refine WQ.thenC ?_
      refine WC.cond (b := decide (x5 < (IntKind.i64.wrap ((IntKind.i64.wrap ((8 : Int) * (a0.length : Int))) + (32 : Int))))) rfl (fun hb7 => ?_) (fun hb7 => ?_)
      · have h := ite_t hb7 h
        refine WC.skip ?_
        refine WQ.thenC ?_
        obtain ⟨x8, hj9, h⟩ := bnd h
        refine WC.joinF (fun (x8 : Int) (ρ' : Nat → Value) (M' : IM) (H' : HL) => M3.le M' ∧ F = H' ∧ ρ' 0 = v0 ∧ ρ' 3 = (.int .u32 x8) ∧ ρ' 4 = (.int .i64 x5)) x8 ?_ ?_
        · have h39 := h
          have h := hj9
          refine WC.block ?_
          refine WC.seq ?_
          refine WC.region ?_
          refine WL.pure (v := (.int .u32 x4)) (PO.move hs3_3) rfl ?_
          refine WL.pure (v := (.int .u32 (andI .u32 x4 (1 : Int)))) (PO.and rfl rfl) rfl ?_
          refine WL.pure (v := (.int .u32 (andI .u32 x4 (1 : Int)))) (PO.assign rfl) rfl ?_
          refine WL.nil ?_
          refine WQ.thenC ?_
          refine WC.seq ?_
          refine WC.region ?_
          refine WL.pure (v := (.int .u32 x4)) (PO.move hs3_3) rfl ?_
          refine WL.pure (v := (.int .u32 (IntKind.u32.wrap (x4.tdiv (2 : Int))))) (PO.quo rfl rfl (by decide)) rfl ?_
          refine WL.pure (v := v0) (PO.move hs3_0) rfl ?_
          refine WL.pure (v := (.int .i64 x5)) (PO.move hs3_4) rfl ?_
          obtain ⟨r10, hr11, h⟩ := bnd h
          refine WL.eff (EO.call0 co31 (args2 (show ev _ _ = v0 from rfl) (show ev _ _ = (.int .i64 x5) from rfl)) (f_ref03_bit_ok a0 x5 _ _ h0 r10 hr11)) rfl ?_
          rintro _ M12 _ hle13 ⟨_, ⟨rfl, rfl⟩, rfl⟩
          have h0 := h0.mono hle13
          refine WL.a0 ?_
          refine WL.pure (v := (.int .u32 (IntKind.u32.wrap (r10 * (2147483648 : Int))))) (PO.mul rfl rfl) rfl ?_
          refine WL.pure (v := (.int .u32 (IntKind.u32.wrap ((IntKind.u32.wrap (x4.tdiv (2 : Int))) + (IntKind.u32.wrap (r10 * (2147483648 : Int))))))) (PO.add rfl rfl) rfl ?_
          refine WL.pure (v := (.int .u32 (IntKind.u32.wrap ((IntKind.u32.wrap (x4.tdiv (2 : Int))) + (IntKind.u32.wrap (r10 * (2147483648 : Int))))))) (PO.assign rfl) rfl ?_
          refine WL.nil ?_
          refine WQ.thenC ?_
          refine WC.seq ?_
          refine WC.region ?_
          refine WL.pure (v := (.int .u32 (andI .u32 x4 (1 : Int)))) (PO.move rfl) rfl ?_
          refine WL.pure (v := (.bool (decide ((andI .u32 x4 (1 : Int)) = (1 : Int))))) (PO.eql rfl rfl) rfl ?_
          refine WL.nil ?_
          refine WQ.thenC ?_
          refine WC.cond (b := decide ((andI .u32 x4 (1 : Int)) = (1 : Int))) rfl (fun hb15 => ?_) (fun hb15 => ?_)
          · have h := ite_t hb15 h
            refine WC.region ?_
            refine WL.pure (v := (.int .u32 (IntKind.u32.wrap ((IntKind.u32.wrap (x4.tdiv (2 : Int))) + (IntKind.u32.wrap (r10 * (2147483648 : Int))))))) (PO.move rfl) rfl ?_
            refine WL.pure (v := (.int .u32 (xorI .u32 (IntKind.u32.wrap ((IntKind.u32.wrap (x4.tdiv (2 : Int))) + (IntKind.u32.wrap (r10 * (2147483648 : Int))))) (2197175160 : Int)))) (PO.xor rfl rfl) rfl ?_
            refine WL.pure (v := (.int .u32 (xorI .u32 (IntKind.u32.wrap ((IntKind.u32.wrap (x4.tdiv (2 : Int))) + (IntKind.u32.wrap (r10 * (2147483648 : Int))))) (2197175160 : Int)))) (PO.assign rfl) rfl ?_
            refine WL.nil ?_
            refine WQ.blockN ?_
            obtain rfl := Option.some.inj h
            refine WQ.thenJ ?_
            exact ⟨hle13, rfl, hs3_0, rfl, hs3_4⟩
          · have h := ite_f hb15 h
            refine WC.skip ?_
            refine WQ.blockN ?_
            obtain rfl := Option.some.inj h
            refine WQ.thenJ ?_
            exact ⟨hle13, rfl, hs3_0, rfl, hs3_4⟩
        · rintro ρ9 M9 H9 ⟨hle9, rfl, hs9_0, hs9_3, hs9_4⟩
          have h0 := h0.mono hle9
          refine WC.region ?_
          refine WL.pure (v := (.int .i64 x5)) (PO.move hs9_4) rfl ?_
          refine WL.pure (v := (.int .i64 (IntKind.i64.wrap (x5 + (1 : Int))))) (PO.add rfl rfl) rfl ?_
          refine WL.pure (v := (.int .i64 (IntKind.i64.wrap (x5 + (1 : Int))))) (PO.assign rfl) rfl ?_
          refine WL.nil ?_
          refine WQ.again (x8, IntKind.i64.wrap (x5 + (1 : Int))) (Option.some.inj h).symm ?_
          exact ⟨(hle3.trans hle9), rfl, hs9_0, hs9_3, rfl⟩
      · have h := ite_f hb7 h
        refine WC.exit ?_
        refine WQ.thenE ?_
        refine WQ.leaveE x4 (Option.some.inj h).symm (fun heq3 => ?_)
        subst heq3
        have h := hK3
        refine WQ.blockH ?_
        obtain rfl := Option.some.inj h
        refine WQ.thenJ ?_
        exact ⟨hle3, rfl, hs3_3⟩
  · rintro ρ2 M2 H2 ⟨hle2, rfl, hs2_3⟩
    refine WC.seq ?_
    refine WC.region ?_
    refine WL.pure (v := (.int .u32 x1)) (PO.move hs2_3) rfl ?_
    refine WL.pure (v := (.int .u32 (IntKind.u32.wrap ((4294967295 : Int) - x1)))) (PO.sub rfl rfl) rfl ?_
    refine WL.pure (v := (.int .u32 (IntKind.u32.wrap ((4294967295 : Int) - x1)))) (PO.assign rfl) rfl ?_
    refine WL.nil ?_
    refine WQ.thenC ?_
    refine WC.ret ?_
    exact WQ.returnsF h [] rfl (results1 rfl rfl) hle2 ⟨rfl, rfl⟩

noncomputable def f_law03_CrcSums (a0 : (List Int)) : Option Bool :=
  (if (decide ((600 : Int) < (a0.length : Int))) = true then ((f_law03_works).bind fun (r2 : Bool) => (some r2)) else ((((f_crc_Sum a0).bind fun (r9 : Int) => ((f_ref03_Sum a0).bind fun (r14 : Int) => (if (decide (r9 = r14)) = true then ((f_law03_works).bind fun (r20 : Bool) => (some r20)) else (some false)))) : Option Bool).bind fun (x7 : Bool) => (some x7)))
def f_law03_CrcSums_post (a0 : (List Int)) (v0 : Value) : Bool → Value → IM → HL → Prop :=
  fun (r0 : Bool) (v : Value) (M' : IM) (H' : HL) => (.bool r0) = v ∧ H' = []
set_option maxHeartbeats 1000000 in
set_option maxRecDepth 100000 in
theorem f_law03_CrcSums_ok (a0 : (List Int)) (M : IM) (v0 : Value) (h0 : RS (Kd.int .u8) M v0 a0) (res : Bool) (h : f_law03_CrcSums a0 = some res) :
    Tri Try.prog 3 #[v0] M [] (f_law03_CrcSums_post a0 v0 res) := by
  unfold f_law03_CrcSums at h
  refine Tri.enter (fn := Try.f3) Try.func3 rfl (Nat.le_of_ble_eq_true rfl) ?_
  intro F ρ hρ
  refine WC.seq ?_
  refine WC.region ?_
  refine WL.pure (v := (.bool false)) (PO.assign rfl) rfl ?_
  refine WL.nil ?_
  refine WQ.thenC ?_
  refine WC.seq ?_
  refine WC.seq ?_
  refine WC.region ?_
  refine WL.pure (v := v0) (PO.move (hρ 0)) rfl ?_
  refine WL.pure (v := (.int .i64 (a0.length : Int))) (PO.lenS Try.underlying22 rfl h0.len) rfl ?_
  refine WL.pure (v := (.bool (decide ((600 : Int) < (a0.length : Int))))) (PO.gtr rfl rfl) rfl ?_
  refine WL.nil ?_
  refine WQ.thenC ?_
  refine WC.cond (b := decide ((600 : Int) < (a0.length : Int))) rfl (fun hb1 => ?_) (fun hb1 => ?_)
  · have h := ite_t hb1 h
    refine WC.seq ?_
    refine WC.region ?_
    obtain ⟨r2, hr3, h⟩ := bnd h
    refine WL.eff (EO.call0 co11 (args0) (f_law03_works_ok _ r2 hr3)) rfl ?_
    rintro _ M4 _ hle5 ⟨_, ⟨rfl, rfl⟩, rfl⟩
    have h0 := h0.mono hle5
    refine WL.a0 ?_
    refine WL.pure (v := (.bool r2)) (PO.assign rfl) rfl ?_
    refine WL.nil ?_
    refine WQ.thenC ?_
    refine WC.ret ?_
    refine WQ.thenR ?_
    exact WQ.returnsF h [] rfl (results1 rfl rfl) hle5 ⟨rfl, rfl⟩
  · have h := ite_f hb1 h
    refine WC.skip ?_
    refine WQ.thenC ?_
    obtain ⟨x7, hj8, h⟩ := bnd h
    refine WC.joinF (fun (x7 : Bool) (ρ' : Nat → Value) (M' : IM) (H' : HL) => M.le M' ∧ F = H' ∧ ρ' 2 = (.bool x7)) x7 ?_ ?_
    · have h38 := h
      have h := hj8
      refine WC.region ?_
      refine WL.pure (v := v0) (PO.move (hρ 0)) rfl ?_
      obtain ⟨r9, hr10, h⟩ := bnd h
      refine WL.eff (EO.call0 co12 (args1 (show ev _ _ = v0 from rfl)) (f_crc_Sum_ok a0 _ _ h0 r9 hr10)) rfl ?_
      rintro _ M11 _ hle12 ⟨_, ⟨rfl, rfl⟩, rfl⟩
      have h0 := h0.mono hle12
      refine WL.a0 ?_
      refine WL.pure (v := v0) (PO.move (hρ 0)) rfl ?_
      obtain ⟨r14, hr15, h⟩ := bnd h
      refine WL.eff (EO.call0 co13 (args1 (show ev _ _ = v0 from rfl)) (f_ref03_Sum_ok a0 _ _ h0 r14 hr15)) rfl ?_
      rintro _ M16 _ hle17 ⟨_, ⟨rfl, rfl⟩, rfl⟩
      have h0 := h0.mono hle17
      refine WL.a0 ?_
      refine WL.pure (v := (.bool (decide (r9 = r14)))) (PO.eql rfl rfl) rfl ?_
      refine WL.pure (v := (.bool (decide (r9 = r14)))) (PO.move rfl) rfl ?_
      rcases Bool.eq_false_or_eq_true (decide (r9 = r14)) with hb19 | hb19
      · have h := ite_t hb19 h
        refine WL.on 12 rfl rfl hb19 ?_
        obtain ⟨r20, hr21, h⟩ := bnd h
        refine WL.eff (EO.call0 co11 (args0) (f_law03_works_ok _ r20 hr21)) rfl ?_
        rintro _ M22 _ hle23 ⟨_, ⟨rfl, rfl⟩, rfl⟩
        have h0 := h0.mono hle23
        refine WL.a0 ?_
        refine WL.pure (v := (.bool r20)) (PO.pickT rfl hb19 rfl) rfl ?_
        refine WL.pure (v := (.bool r20)) (PO.assign rfl) rfl ?_
        refine WL.nil ?_
        obtain rfl := Option.some.inj h
        refine WQ.thenJ ?_
        exact ⟨((hle12.trans hle17).trans hle23), rfl, rfl⟩
      · have h := ite_f hb19 h
        refine WL.off 12 rfl rfl hb19 rfl ?_
        refine WL.pure (v := (.bool false)) (PO.pickF rfl hb19 rfl) rfl ?_
        refine WL.pure (v := (.bool false)) (PO.assign rfl) rfl ?_
        refine WL.nil ?_
        obtain rfl := Option.some.inj h
        refine WQ.thenJ ?_
        exact ⟨(hle12.trans hle17), rfl, rfl⟩
    · rintro ρ8 M8 H8 ⟨hle8, rfl, hs8_2⟩
      refine WC.ret ?_
      exact WQ.returnsF h [] rfl (results1 rfl hs8_2) hle8 ⟨rfl, rfl⟩

noncomputable def f_law03_CrcParts (a0 : (List Int)) (a1 : (List Int)) (a2 : (List Int)) : Option Bool :=
  (((if (decide ((400 : Int) < (a0.length : Int))) = true then (some true) else (if (decide ((400 : Int) < (a1.length : Int))) = true then (some true) else (some (decide ((400 : Int) < (a2.length : Int)))))) : Option Bool).bind fun (x1 : Bool) => (if x1 = true then ((f_law03_works).bind fun (r6 : Bool) => (some r6)) else (grd (([] : List Int).length + a0.length ≤ 274877906944) (grd ((([] : List Int) ++ a0).length + a1.length ≤ 274877906944) (grd (((([] : List Int) ++ a0) ++ a1).length + a2.length ≤ 274877906944) ((((f_crc_Sum a0).bind fun (r26 : Int) => ((f_crc_More r26 a1).bind fun (r31 : Int) => ((f_crc_More r31 a2).bind fun (r36 : Int) => ((f_ref03_Sum (((([] : List Int) ++ a0) ++ a1) ++ a2)).bind fun (r41 : Int) => (if (decide (r36 = r41)) = true then ((f_law03_works).bind fun (r50 : Bool) => (some r50)) else (some false)))))) : Option Bool).bind fun (x24 : Bool) => (some x24)))))))
def f_law03_CrcParts_post (a0 : (List Int)) (a1 : (List Int)) (a2 : (List Int)) (v0 v1 v2 : Value) : Bool → Value → IM → HL → Prop :=
  fun (r0 : Bool) (v : Value) (M' : IM) (H' : HL) => (.bool r0) = v ∧ H' = []
set_option maxHeartbeats 1000000 in
set_option maxRecDepth 100000 in
theorem f_law03_CrcParts_ok (a0 : (List Int)) (a1 : (List Int)) (a2 : (List Int)) (M : IM) (v0 v1 v2 : Value) (h0 : RS (Kd.int .u8) M v0 a0) (h1 : RS (Kd.int .u8) M v1 a1) (h2 : RS (Kd.int .u8) M v2 a2) (res : Bool) (h : f_law03_CrcParts a0 a1 a2 = some res) :
    Tri Try.prog 4 #[v0, v1, v2] M [] (f_law03_CrcParts_post a0 a1 a2 v0 v1 v2 res) := by
  unfold f_law03_CrcParts at h
  refine Tri.enter (fn := Try.f4) Try.func4 rfl (Nat.le_of_ble_eq_true rfl) ?_
  intro F ρ hρ
  refine WC.seq ?_
  refine WC.region ?_
  refine WL.pure (v := (.bool false)) (PO.assign rfl) rfl ?_
  refine WL.nil ?_
  refine WQ.thenC ?_
  refine WC.seq ?_
  obtain ⟨x1, hj2, h⟩ := bnd h
  refine WC.joinF (fun (x1 : Bool) (ρ' : Nat → Value) (M' : IM) (H' : HL) => M.le M' ∧ F = H' ∧ ρ' 0 = v0 ∧ ρ' 1 = v1 ∧ ρ' 2 = v2 ∧ ρ' 20 = (.bool x1)) x1 ?_ ?_
  · have h32 := h
    have h := hj2
    refine WC.region ?_
    refine WL.pure (v := v0) (PO.move (hρ 0)) rfl ?_
    refine WL.pure (v := (.int .i64 (a0.length : Int))) (PO.lenS Try.underlying22 rfl h0.len) rfl ?_
    refine WL.pure (v := (.bool (decide ((400 : Int) < (a0.length : Int))))) (PO.gtr rfl rfl) rfl ?_
    refine WL.pure (v := (.bool (decide ((400 : Int) < (a0.length : Int))))) (PO.move rfl) rfl ?_
    rcases Bool.eq_false_or_eq_true (decide ((400 : Int) < (a0.length : Int))) with hb3 | hb3
    · have h := ite_t hb3 h
      refine WL.off 11 rfl rfl hb3 rfl ?_
      refine WL.off 11 rfl rfl hb3 rfl ?_
      refine WL.off 11 rfl rfl hb3 rfl ?_
      refine WL.pure (v := (.bool true)) (PO.pickT rfl hb3 rfl) rfl ?_
      refine WL.pure (v := (.bool true)) (PO.move rfl) rfl ?_
      refine WL.off 16 rfl rfl rfl rfl ?_
      refine WL.off 16 rfl rfl rfl rfl ?_
      refine WL.off 16 rfl rfl rfl rfl ?_
      refine WL.pure (v := (.bool true)) (PO.pickT rfl rfl rfl) rfl ?_
      refine WL.nil ?_
      obtain rfl := Option.some.inj h
      refine WQ.thenJ ?_
      exact ⟨(IM.le.refl _), rfl, (hρ 0), (hρ 1), (hρ 2), rfl⟩
    · have h := ite_f hb3 h
      refine WL.on 11 rfl rfl hb3 ?_
      refine WL.pure (v := v1) (PO.move (hρ 1)) rfl ?_
      refine WL.on 11 rfl rfl hb3 ?_
      refine WL.pure (v := (.int .i64 (a1.length : Int))) (PO.lenS Try.underlying22 rfl h1.len) rfl ?_
      refine WL.on 11 rfl rfl hb3 ?_
      refine WL.pure (v := (.bool (decide ((400 : Int) < (a1.length : Int))))) (PO.gtr rfl rfl) rfl ?_
      refine WL.pure (v := (.bool (decide ((400 : Int) < (a1.length : Int))))) (PO.pickF rfl hb3 rfl) rfl ?_
      refine WL.pure (v := (.bool (decide ((400 : Int) < (a1.length : Int))))) (PO.move rfl) rfl ?_
      rcases Bool.eq_false_or_eq_true (decide ((400 : Int) < (a1.length : Int))) with hb4 | hb4
      · have h := ite_t hb4 h
        refine WL.off 16 rfl rfl hb4 rfl ?_
        refine WL.off 16 rfl rfl hb4 rfl ?_
        refine WL.off 16 rfl rfl hb4 rfl ?_
        refine WL.pure (v := (.bool true)) (PO.pickT rfl hb4 rfl) rfl ?_
        refine WL.nil ?_
        obtain rfl := Option.some.inj h
        refine WQ.thenJ ?_
        exact ⟨(IM.le.refl _), rfl, (hρ 0), (hρ 1), (hρ 2), rfl⟩
      · have h := ite_f hb4 h
        refine WL.on 16 rfl rfl hb4 ?_
        refine WL.pure (v := v2) (PO.move (hρ 2)) rfl ?_
        refine WL.on 16 rfl rfl hb4 ?_
        refine WL.pure (v := (.int .i64 (a2.length : Int))) (PO.lenS Try.underlying22 rfl h2.len) rfl ?_
        refine WL.on 16 rfl rfl hb4 ?_
        refine WL.pure (v := (.bool (decide ((400 : Int) < (a2.length : Int))))) (PO.gtr rfl rfl) rfl ?_
        refine WL.pure (v := (.bool (decide ((400 : Int) < (a2.length : Int))))) (PO.pickF rfl hb4 rfl) rfl ?_
        refine WL.nil ?_
        obtain rfl := Option.some.inj h
        refine WQ.thenJ ?_
        exact ⟨(IM.le.refl _), rfl, (hρ 0), (hρ 1), (hρ 2), rfl⟩
  · rintro ρ2 M2 H2 ⟨hle2, rfl, hs2_0, hs2_1, hs2_2, hs2_20⟩
    have h0 := h0.mono hle2
    have h1 := h1.mono hle2
    have h2 := h2.mono hle2
    refine WC.cond (b := x1) hs2_20 (fun hb5 => ?_) (fun hb5 => ?_)
    · have h := ite_t hb5 h
      refine WC.seq ?_
      refine WC.region ?_
      obtain ⟨r6, hr7, h⟩ := bnd h
      refine WL.eff (EO.call0 co11 (args0) (f_law03_works_ok _ r6 hr7)) rfl ?_
      rintro _ M8 _ hle9 ⟨_, ⟨rfl, rfl⟩, rfl⟩
      have h0 := h0.mono hle9
      have h1 := h1.mono hle9
      have h2 := h2.mono hle9
      refine WL.a0 ?_
      refine WL.pure (v := (.bool r6)) (PO.assign rfl) rfl ?_
      refine WL.nil ?_
      refine WQ.thenC ?_
      refine WC.ret ?_
      refine WQ.thenR ?_
      exact WQ.returnsF h [] rfl (results1 rfl rfl) (hle2.trans hle9) ⟨rfl, rfl⟩
    · have h := ite_f hb5 h
      refine WC.skip ?_
      refine WQ.thenC ?_
      refine WC.seq ?_
      refine WC.region ?_
      refine WL.pure (v := (.slice none 0 0)) (PO.assign rfl) rfl ?_
      refine WL.nil ?_
      refine WQ.thenC ?_
      refine WC.seq ?_
      refine WC.region ?_
      refine WL.pure (v := (.slice none 0 0)) (PO.move rfl) rfl ?_
      refine WL.pure (v := v0) (PO.move hs2_0) rfl ?_
      obtain ⟨hg15, h⟩ := grd_i h
      refine WL.e0 ?_
      refine WL.eff (EO.append (dd := (Kd.int .u8)) (xs := []) (ys := a0) Try.underlying22 Try.underlying22 in5 rfl (appB (by decide) hg15) (by decide) rfl rfl (OwnS.nil _ _) (h0.src _)) rfl ?_
      rintro v14 _ _ - ⟨rfl, c12, rfl, h13⟩
      refine WL.pure (v := v1) (PO.move hs2_1) rfl ?_
      obtain ⟨hg19, h⟩ := grd_i h
      refine WL.eff (EO.append (dd := (Kd.int .u8)) (xs := ([] : List Int) ++ a0) (ys := a1) Try.underlying22 Try.underlying22 in5 rfl (appB (by decide) hg19) (by decide) rfl rfl h13 (h1.src _)) rfl ?_
      rintro v18 _ _ - ⟨rfl, c16, rfl, h17⟩
      refine WL.pure (v := v2) (PO.move hs2_2) rfl ?_
      obtain ⟨hg23, h⟩ := grd_i h
      refine WL.eff (EO.append (dd := (Kd.int .u8)) (xs := (([] : List Int) ++ a0) ++ a1) (ys := a2) Try.underlying22 Try.underlying22 in5 rfl (appB (by decide) hg23) (by decide) rfl rfl h17 (h2.src _)) rfl ?_
      rintro v22 _ _ - ⟨rfl, c20, rfl, h21⟩
      refine WL.pure (v := v22) (PO.assign rfl) rfl ?_
      refine WL.nil ?_
      refine WQ.thenC ?_
      obtain ⟨x24, hj25, h⟩ := bnd h
      refine WC.joinF (fun (x24 : Bool) (ρ' : Nat → Value) (M' : IM) (H' : HL) => M2.le M' ∧ F = H' ∧ ρ' 6 = (.bool x24)) x24 ?_ ?_
      · have h325 := h
        have h := hj25
        refine WC.region ?_
        refine WL.pure (v := v0) (PO.move hs2_0) rfl ?_
        obtain ⟨r26, hr27, h⟩ := bnd h
        refine WL.eff (EO.call0 co12 (args1 (show ev _ _ = v0 from rfl)) (f_crc_Sum_ok a0 _ _ h0 r26 hr27)) rfl ?_
        rintro _ M28 _ hle29 ⟨_, ⟨rfl, rfl⟩, rfl⟩
        have h0 := h0.mono hle29
        have h1 := h1.mono hle29
        have h2 := h2.mono hle29
        have h21 := h21.mono hle29
        refine WL.a0 ?_
        refine WL.pure (v := v1) (PO.move hs2_1) rfl ?_
        obtain ⟨r31, hr32, h⟩ := bnd h
        refine WL.eff (EO.call0 co14 (args2 (show ev _ _ = (.int .u32 r26) from rfl) (show ev _ _ = v1 from rfl)) (f_crc_More_ok r26 a1 _ _ h1 r31 hr32)) rfl ?_
        rintro _ M33 _ hle34 ⟨_, ⟨rfl, rfl⟩, rfl⟩
        have h0 := h0.mono hle34
        have h1 := h1.mono hle34
        have h2 := h2.mono hle34
        have h21 := h21.mono hle34
        refine WL.a0 ?_
        refine WL.pure (v := v2) (PO.move hs2_2) rfl ?_
        obtain ⟨r36, hr37, h⟩ := bnd h
        refine WL.eff (EO.call0 co14 (args2 (show ev _ _ = (.int .u32 r31) from rfl) (show ev _ _ = v2 from rfl)) (f_crc_More_ok r31 a2 _ _ h2 r36 hr37)) rfl ?_
        rintro _ M38 _ hle39 ⟨_, ⟨rfl, rfl⟩, rfl⟩
        have h0 := h0.mono hle39
        have h1 := h1.mono hle39
        have h2 := h2.mono hle39
        have h21 := h21.mono hle39
        refine WL.a0 ?_
        refine WL.pure (v := v22) (PO.move rfl) rfl ?_
        obtain ⟨r41, hr42, h⟩ := bnd h
        refine WL.eff (EO.call1 co13 (args1 (show ev _ _ = v22 from rfl)) (Tri.lend fun w0_ H0_ hs0_ => (f_ref03_Sum_ok (((([] : List Int) ++ a0) ++ a1) ++ a2) _ _ (h21.rs hs0_) r41 hr42))) rfl ?_
        rintro _ _ _ hle44 ⟨_, ⟨Ml46, Hl47, hll48, rfl, rfl, ⟨rfl, rfl⟩⟩, rfl⟩
        have h0 := h0.mono hle44
        have h1 := h1.mono hle44
        have h2 := h2.mono hle44
        have h21 := h21.mono hle44
        refine WL.a1 ?_
        refine WL.pure (v := (.bool (decide (r36 = r41)))) (PO.eql rfl rfl) rfl ?_
        refine WL.pure (v := (.bool (decide (r36 = r41)))) (PO.move rfl) rfl ?_
        rcases Bool.eq_false_or_eq_true (decide (r36 = r41)) with hb49 | hb49
        · have h := ite_t hb49 h
          refine WL.on 38 rfl rfl hb49 ?_
          obtain ⟨r50, hr51, h⟩ := bnd h
          refine WL.eff (EO.call0 co11 (args0) (f_law03_works_ok _ r50 hr51)) rfl ?_
          rintro _ M52 _ hle53 ⟨_, ⟨rfl, rfl⟩, rfl⟩
          have h0 := h0.mono hle53
          have h1 := h1.mono hle53
          have h2 := h2.mono hle53
          have h21 := h21.mono hle53
          refine WL.a0 ?_
          refine WL.pure (v := (.bool r50)) (PO.pickT rfl hb49 rfl) rfl ?_
          refine WL.pure (v := (.bool r50)) (PO.assign rfl) rfl ?_
          refine WL.nil ?_
          refine WQ.drop ?_
          obtain rfl := Option.some.inj h
          refine WQ.thenJ ?_
          exact ⟨((((hle29.trans hle34).trans hle39).trans hle44).trans hle53), rfl, rfl⟩
        · have h := ite_f hb49 h
          refine WL.off 38 rfl rfl hb49 rfl ?_
          refine WL.pure (v := (.bool false)) (PO.pickF rfl hb49 rfl) rfl ?_
          refine WL.pure (v := (.bool false)) (PO.assign rfl) rfl ?_
          refine WL.nil ?_
          refine WQ.drop ?_
          obtain rfl := Option.some.inj h
          refine WQ.thenJ ?_
          exact ⟨(((hle29.trans hle34).trans hle39).trans hle44), rfl, rfl⟩
      · rintro ρ25 M25 H25 ⟨hle25, rfl, hs25_6⟩
        refine WC.ret ?_
        exact WQ.returnsF h [] rfl (results1 rfl hs25_6) (hle2.trans hle25) ⟨rfl, rfl⟩

noncomputable def f_ref03_Put_l0 (s_ : ((List Int) × Int × Int)) : Option (((List Int) × Int × Int) ⊕ (List Int)) :=
  match s_ with
  | (x14, x15, x16) =>
    (if (decide (x16 < (4 : Int))) = true then (grd (x14.length + [IntKind.u8.wrap (x15.tmod (256 : Int))].length ≤ 274877906944) (some (Sum.inl (x14 ++ [IntKind.u8.wrap (x15.tmod (256 : Int))], IntKind.u32.wrap (x15.tdiv (256 : Int)), IntKind.i64.wrap (x16 + (1 : Int)))))) else (some (Sum.inr x14)))
noncomputable def f_ref03_Put (a0 : (List Int)) : Option (List Int) :=
  (grd (([] : List Int).length + a0.length ≤ 274877906944) ((f_ref03_Sum a0).bind fun (r6 : Int) => ((((iter (f_ref03_Put_l0) (([] : List Int) ++ a0, r6, (0 : Int))).bind (fun (x17 : (List Int)) => (some x17))) : Option (List Int)).bind fun (x11 : (List Int)) => (some x11))))
def f_ref03_Put_post (a0 : (List Int)) (v0 : Value) : (List Int) → Value → IM → HL → Prop :=
  fun (r0 : (List Int)) (v : Value) (M' : IM) (H' : HL) => ∃ vz0 cz0, vz0 = v ∧ H' = [cz0] ∧ OwnS (Kd.int .u8) M' vz0 r0 cz0
set_option maxHeartbeats 1000000 in
set_option maxRecDepth 100000 in
theorem f_ref03_Put_ok (a0 : (List Int)) (M : IM) (v0 : Value) (h0 : RS (Kd.int .u8) M v0 a0) (res : (List Int)) (h : f_ref03_Put a0 = some res) :
    Tri Try.prog 19 #[v0] M [] (f_ref03_Put_post a0 v0 res) := by
  unfold f_ref03_Put at h
  refine Tri.enter (fn := Try.f19) Try.func19 rfl (Nat.le_of_ble_eq_true rfl) ?_
  intro F ρ hρ
  refine WC.seq ?_
  refine WC.region ?_
  refine WL.pure (v := (.slice none 0 0)) (PO.assign rfl) rfl ?_
  refine WL.nil ?_
  refine WQ.thenC ?_
  refine WC.seq ?_
  refine WC.region ?_
  refine WL.pure (v := (.slice none 0 0)) (PO.assign rfl) rfl ?_
  refine WL.nil ?_
  refine WQ.thenC ?_
  refine WC.seq ?_
  refine WC.region ?_
  refine WL.pure (v := (.slice none 0 0)) (PO.move rfl) rfl ?_
  refine WL.pure (v := v0) (PO.move (hρ 0)) rfl ?_
  obtain ⟨hg5, h⟩ := grd_i h
  refine WL.e0 ?_
  refine WL.eff (EO.append (dd := (Kd.int .u8)) (xs := []) (ys := a0) Try.underlying22 Try.underlying22 in5 rfl (appB (by decide) hg5) (by decide) rfl rfl (OwnS.nil _ _) (h0.src _)) rfl ?_
  rintro v4 _ _ - ⟨rfl, c2, rfl, h3⟩
  refine WL.pure (v := v4) (PO.assign rfl) rfl ?_
  refine WL.nil ?_
  refine WQ.thenC ?_
  refine WC.seq ?_
  refine WC.region ?_
  refine WL.pure (v := v0) (PO.move (hρ 0)) rfl ?_
  obtain ⟨r6, hr7, h⟩ := bnd h
  refine WL.eff (EO.call0 co13 (args1 (show ev _ _ = v0 from rfl)) (f_ref03_Sum_ok a0 _ _ h0 r6 hr7)) rfl ?_
  rintro _ M8 _ hle9 ⟨_, ⟨rfl, rfl⟩, rfl⟩
  have h0 := h0.mono hle9
  have h3 := h3.mono hle9
  refine WL.a0 ?_
  refine WL.pure (v := (.int .u32 r6)) (PO.assign rfl) rfl ?_
  refine WL.nil ?_
  refine WQ.thenC ?_
  obtain ⟨x11, hj12, h⟩ := bnd h
  refine WC.joinF (fun (x11 : (List Int)) (ρ' : Nat → Value) (M' : IM) (H' : HL) => ∃ vx11 cx11, M8.le M' ∧ cx11 :: F = H' ∧ ρ' 3 = vx11 ∧ OwnS (Kd.int .u8) M' vx11 x11 cx11) x11 ?_ ?_
  · have h312 := h
    have h := hj12
    refine WC.seq ?_
    refine WC.region ?_
    refine WL.pure (v := (.int .i64 (0 : Int))) (PO.assign rfl) rfl ?_
    refine WL.nil ?_
    refine WQ.thenC ?_
    refine WC.block ?_
    obtain ⟨e13, he13, hK13⟩ := bnd h
    clear h
    refine WC.loop he13 (fun (p_ : ((List Int) × Int × Int)) (ρ' : Nat → Value) (M' : IM) (H' : HL) => match p_ with | (x14, x15, x16) => ∃ vx14 cx14, M8.le M' ∧ cx14 :: F = H' ∧ ρ' 3 = vx14 ∧ ρ' 4 = (.int .u32 x15) ∧ ρ' 5 = (.int .i64 x16) ∧ OwnS (Kd.int .u8) M' vx14 x14 cx14) ?_ ?_
    · exact ⟨v4, c2, (IM.le.refl _), rfl, rfl, rfl, rfl, h3⟩
    · rintro ⟨x14, x15, x16⟩ o13 ρ13 M13 H13 h ⟨vx14, cx14, hle13, rfl, hs13_3, hs13_4, hs13_5, hx14⟩
      unfold f_ref03_Put_l0 at h
      refine WC.seq ?_
      refine WC.seq ?_
      refine WC.region ?_
      refine WL.pure (v := (.int .i64 x16)) (PO.move hs13_5) rfl ?_
      refine WL.pure (v := (.bool (decide (x16 < (4 : Int))))) (PO.lss rfl rfl) rfl ?_
      refine WL.nil ?_
      refine WQ.thenC ?_
      refine WC.cond (b := decide (x16 < (4 : Int))) rfl (fun hb18 => ?_) (fun hb18 => ?_)
      · have h := ite_t hb18 h
        refine WC.skip ?_
        refine WQ.thenC ?_
        refine WC.seq ?_
        refine WC.block ?_
        refine WC.seq ?_
        refine WC.region ?_
        refine WL.pure (v := vx14) (PO.move hs13_3) rfl ?_
        refine WL.pure (v := (.int .u32 x15)) (PO.move hs13_4) rfl ?_
        refine WL.pure (v := (.int .u32 (x15.tmod (256 : Int)))) (PO.rem rfl rfl (by decide)) rfl ?_
        refine WL.pure (v := (.int .u8 (IntKind.u8.wrap (x15.tmod (256 : Int))))) (PO.conv us24 Try.underlying5 rfl) rfl ?_
        refine WL.eff (EO.buildSliceL (cl := [(.int .u8 (IntKind.u8.wrap (x15.tmod (256 : Int))))]) Try.underlying22 iz5 rfl (Parts.cons (congrArg Value.cells (show ev _ _ = (.int .u8 (IntKind.u8.wrap (x15.tmod (256 : Int)))) from rfl)) Parts.nil) rfl) rfl ?_
        rintro _ _ _ - ⟨rfl, g19, rfl, rfl⟩
        have h21 : OwnS (Kd.int .u8) M13 (.slice (some ⟨g19, 0, none⟩) 1 1) [IntKind.u8.wrap (x15.tmod (256 : Int))] [(g19, .cells #[(.int .u8 (IntKind.u8.wrap (x15.tmod (256 : Int))))] 5 (0, 0))] := OwnS.rows (css := [[(.int .u8 (IntKind.u8.wrap (x15.tmod (256 : Int))))]]) (Rows.cons rfl Rows.nil) rfl rfl
        obtain ⟨hg25, h⟩ := grd_i h
        refine WL.f1 ?_
        refine WL.eff (EO.append (dd := (Kd.int .u8)) (xs := x14) (ys := [IntKind.u8.wrap (x15.tmod (256 : Int))]) Try.underlying22 Try.underlying22 in5 rfl (appB (by decide) hg25) (by decide) rfl rfl hx14 (h21.src 1 rfl)) rfl ?_
        rintro v24 _ _ - ⟨rfl, c22, rfl, h23⟩
        refine WL.pure (v := v24) (PO.assign rfl) rfl ?_
        refine WL.nil ?_
        refine WQ.thenC ?_
        refine WC.region ?_
        refine WL.pure (v := (.int .u32 x15)) (PO.move hs13_4) rfl ?_
        refine WL.pure (v := (.int .u32 (IntKind.u32.wrap (x15.tdiv (256 : Int))))) (PO.quo rfl rfl (by decide)) rfl ?_
        refine WL.pure (v := (.int .u32 (IntKind.u32.wrap (x15.tdiv (256 : Int))))) (PO.assign rfl) rfl ?_
        refine WL.nil ?_
        refine WQ.blockN ?_
        refine WQ.thenC ?_
        refine WC.region ?_
        refine WL.pure (v := (.int .i64 x16)) (PO.move hs13_5) rfl ?_
        refine WL.pure (v := (.int .i64 (IntKind.i64.wrap (x16 + (1 : Int))))) (PO.add rfl rfl) rfl ?_
        refine WL.pure (v := (.int .i64 (IntKind.i64.wrap (x16 + (1 : Int))))) (PO.assign rfl) rfl ?_
        refine WL.nil ?_
        refine WQ.f1 ?_
        refine WQ.drop ?_
        refine WQ.again (x14 ++ [IntKind.u8.wrap (x15.tmod (256 : Int))], IntKind.u32.wrap (x15.tdiv (256 : Int)), IntKind.i64.wrap (x16 + (1 : Int))) (Option.some.inj h).symm ?_
        exact ⟨v24, c22, hle13, rfl, rfl, rfl, rfl, h23⟩
      · have h := ite_f hb18 h
        refine WC.exit ?_
        refine WQ.thenE ?_
        refine WQ.leaveE x14 (Option.some.inj h).symm (fun heq13 => ?_)
        subst heq13
        have h := hK13
        refine WQ.blockH ?_
        obtain rfl := Option.some.inj h
        refine WQ.thenJ ?_
        exact ⟨vx14, cx14, hle13, rfl, hs13_3, hx14⟩
  · rintro ρ12 M12 H12 ⟨vx11, cx11, hle12, rfl, hs12_3, hx11⟩
    refine WC.seq ?_
    refine WC.region ?_
    refine WL.pure (v := vx11) (PO.move hs12_3) rfl ?_
    refine WL.pure (v := vx11) (PO.assign rfl) rfl ?_
    refine WL.nil ?_
    refine WQ.thenC ?_
    refine WC.ret ?_
    exact WQ.returnsF h [cx11] rfl (results1 rfl rfl) (hle9.trans hle12) ⟨vx11, cx11, rfl, rfl, hx11⟩

noncomputable def f_ref03_Open_l0 (a0 : (List Int)) (r4 : (List Int)) (s_ : Int) : Option (Int ⊕ (Unit ⊕ (List Int))) :=
  match s_ with
  | x11 =>
    (if (decide (x11 < (a0.length : Int))) = true then (grd (0 ≤ x11 ∧ x11 < r4.length) (grd (0 ≤ x11 ∧ x11 < a0.length) (if (decide ((rd r4 x11) ≠ (rd a0 x11))) = true then (some (Sum.inr (Sum.inr []))) else (some (Sum.inl (IntKind.i64.wrap (x11 + (1 : Int)))))))) else (some (Sum.inr (Sum.inl ()))))
noncomputable def f_ref03_Open (a0 : (List Int)) : Option ((List Int) × Bool) :=
  (if (decide ((a0.length : Int) < (4 : Int))) = true then (some ([], false)) else (grd (0 ≤ (0 : Int) ∧ (0 : Int) ≤ IntKind.i64.wrap ((a0.length : Int) - (4 : Int)) ∧ IntKind.i64.wrap ((a0.length : Int) - (4 : Int)) ≤ (a0.length : Int)) ((f_ref03_Put (sub a0 (0 : Int) (IntKind.i64.wrap ((a0.length : Int) - (4 : Int))))).bind fun (r4 : (List Int)) => ((((iter (f_ref03_Open_l0 a0 r4) (0 : Int)).bind (Sum.elim (fun _ => (some (Sum.inl ()))) (fun (x12 : (List Int)) => (((some (x12, false))).bind fun r => some (Sum.inr r))))) : Option (Unit ⊕ ((List Int) × Bool))).bind (Sum.elim (fun _ => (grd (0 ≤ (0 : Int) ∧ (0 : Int) ≤ IntKind.i64.wrap ((a0.length : Int) - (4 : Int)) ∧ IntKind.i64.wrap ((a0.length : Int) - (4 : Int)) ≤ (a0.length : Int)) (some (sub a0 (0 : Int) (IntKind.i64.wrap ((a0.length : Int) - (4 : Int))), true)))) some)))))
def f_ref03_Open_post (a0 : (List Int)) (v0 : Value) : ((List Int) × Bool) → Value → IM → HL → Prop :=
  fun (p_ : ((List Int) × Bool)) (v : Value) (M' : IM) (H' : HL) => match p_ with | (r0, r1) => ∃ vz0, (.tuple #[vz0, (.bool r1)]) = v ∧ H' = [] ∧ RS (Kd.int .u8) M' vz0 r0
set_option maxHeartbeats 1000000 in
set_option maxRecDepth 100000 in
theorem f_ref03_Open_ok (a0 : (List Int)) (M : IM) (v0 : Value) (h0 : RS (Kd.int .u8) M v0 a0) (res : ((List Int) × Bool)) (h : f_ref03_Open a0 = some res) :
    Tri Try.prog 16 #[v0] M [] (f_ref03_Open_post a0 v0 res) := by
  unfold f_ref03_Open at h
  refine Tri.enter (fn := Try.f16) Try.func16 rfl (Nat.le_of_ble_eq_true rfl) ?_
  intro F ρ hρ
  refine WC.seq ?_
  refine WC.region ?_
  refine WL.pure (v := (.slice none 0 0)) (PO.assign rfl) rfl ?_
  refine WL.pure (v := (.bool false)) (PO.assign rfl) rfl ?_
  refine WL.nil ?_
  refine WQ.thenC ?_
  refine WC.seq ?_
  refine WC.seq ?_
  refine WC.region ?_
  refine WL.pure (v := v0) (PO.move (hρ 0)) rfl ?_
  refine WL.pure (v := (.int .i64 (a0.length : Int))) (PO.lenS Try.underlying22 rfl h0.len) rfl ?_
  refine WL.pure (v := (.bool (decide ((a0.length : Int) < (4 : Int))))) (PO.lss rfl rfl) rfl ?_
  refine WL.nil ?_
  refine WQ.thenC ?_
  refine WC.cond (b := decide ((a0.length : Int) < (4 : Int))) rfl (fun hb1 => ?_) (fun hb1 => ?_)
  · have h := ite_t hb1 h
    refine WC.seq ?_
    refine WC.region ?_
    refine WL.pure (v := (.slice none 0 0)) (PO.assign rfl) rfl ?_
    refine WL.pure (v := (.bool false)) (PO.assign rfl) rfl ?_
    refine WL.nil ?_
    refine WQ.thenC ?_
    refine WC.ret ?_
    refine WQ.thenR ?_
    exact WQ.returnsF h [] rfl (results2 rfl rfl rfl) (IM.le.refl _) ⟨(.slice none 0 0), rfl, rfl, RS.nil _ _⟩
  · have h := ite_f hb1 h
    refine WC.skip ?_
    refine WQ.thenC ?_
    refine WC.seq ?_
    refine WC.region ?_
    refine WL.pure (v := v0) (PO.move (hρ 0)) rfl ?_
    refine WL.pure (v := v0) (PO.move (hρ 0)) rfl ?_
    refine WL.pure (v := (.int .i64 (a0.length : Int))) (PO.lenS Try.underlying22 rfl h0.len) rfl ?_
    refine WL.pure (v := (.int .i64 (IntKind.i64.wrap ((a0.length : Int) - (4 : Int))))) (PO.sub rfl rfl) rfl ?_
    obtain ⟨hg2, h⟩ := grd_i h
    have h3 := h0.sub hg2.1 hg2.2.1 hg2.2.2
    refine WL.pure (v := (slV v0 1 ((0 : Int)).toNat (IntKind.i64.wrap ((a0.length : Int) - (4 : Int))).toNat)) (PO.slice (n := a0.length) (l := ((0 : Int)).toNat) (h := (IntKind.i64.wrap ((a0.length : Int) - (4 : Int))).toNat) Try.underlying22 sz5 rfl h0.len h0.cap (bound0 rfl) ⟨_, _, rfl, (Int.le_trans hg2.1 hg2.2.1), rfl⟩ (Int.toNat_le_toNat hg2.2.1) (toNat_le_len hg2.2.2)) rfl ?_
    obtain ⟨r4, hr5, h⟩ := bnd h
    refine WL.eff (EO.call0 co19 (args1 (show ev _ _ = (slV v0 1 ((0 : Int)).toNat (IntKind.i64.wrap ((a0.length : Int) - (4 : Int))).toNat) from rfl)) (f_ref03_Put_ok (sub a0 (0 : Int) (IntKind.i64.wrap ((a0.length : Int) - (4 : Int)))) _ _ h3 r4 hr5)) rfl ?_
    rintro _ M6 _ hle7 ⟨_, ⟨vq8, cq8, rfl, rfl, hq8⟩, rfl⟩
    have h0 := h0.mono hle7
    have h3 := h3.mono hle7
    refine WL.a1 ?_
    refine WL.pure (v := vq8) (PO.assign rfl) rfl ?_
    refine WL.nil ?_
    refine WQ.thenC ?_
    obtain ⟨j9, hj9, h⟩ := bnd h
    refine WC.joinE (fun (_ : Unit) (ρ' : Nat → Value) (M' : IM) (H' : HL) => M6.le M' ∧ F = H' ∧ ρ' 0 = v0) j9 ?_ ?_
    · have h39 := h
      have h := hj9
      refine WC.seq ?_
      refine WC.region ?_
      refine WL.pure (v := (.int .i64 (0 : Int))) (PO.assign rfl) rfl ?_
      refine WL.nil ?_
      refine WQ.thenC ?_
      refine WC.block ?_
      obtain ⟨e10, he10, hK10⟩ := bnd h
      clear h
      refine WC.loop he10 (fun (x11 : Int) (ρ' : Nat → Value) (M' : IM) (H' : HL) => M6.le M' ∧ cq8 :: F = H' ∧ ρ' 0 = v0 ∧ ρ' 4 = vq8 ∧ ρ' 5 = (.int .i64 x11)) ?_ ?_
      · exact ⟨(IM.le.refl _), rfl, (hρ 0), rfl, rfl⟩
      · rintro x11 o10 ρ10 M10 H10 h ⟨hle10, rfl, hs10_0, hs10_4, hs10_5⟩
        unfold f_ref03_Open_l0 at h
        have h0 := h0.mono hle10
        have hq8 := hq8.mono hle10
        refine WC.seq ?_
        refine WC.seq ?_
        refine WC.region ?_
        refine WL.pure (v := (.int .i64 x11)) (PO.move hs10_5) rfl ?_
        refine WL.pure (v := v0) (PO.move hs10_0) rfl ?_
        refine WL.pure (v := (.int .i64 (a0.length : Int))) (PO.lenS Try.underlying22 rfl h0.len) rfl ?_
        refine WL.pure (v := (.bool (decide (x11 < (a0.length : Int))))) (PO.lss rfl rfl) rfl ?_
        refine WL.nil ?_
        refine WQ.thenC ?_
        refine WC.cond (b := decide (x11 < (a0.length : Int))) rfl (fun hb13 => ?_) (fun hb13 => ?_)
        · have h := ite_t hb13 h
          refine WC.skip ?_
          refine WQ.thenC ?_
          refine WC.seq ?_
          refine WC.block ?_
          refine WC.seq ?_
          refine WC.draw [0, 0, 3, 7, 0, 0, 48, 112, 255] (.pure 0 (.pure 1 (.pure 2 (.pure 3 (.pure 4 (.pure 5 (.pure 6 (.pure 7 (.pure 8 .done))))))))) mixed (by kernel_rfl) ?_
          refine WT.pure (v := vq8) rfl (PO.move hs10_4) rfl ?_
          refine WT.pure (v := (.int .i64 x11)) rfl (PO.move hs10_5) rfl ?_
          obtain ⟨hg14, h⟩ := grd_i h
          obtain ⟨p15, cs16, hat17, hrc18, hhas19⟩ := hq8.at hg14.1 hg14.2
          obtain rfl := hrc18
          refine WT.pure (v := (.pointer (some p15))) rfl (PO.indexAddr (n := r4.length) Try.underlying22 sz5 rfl rfl hg14.1 hg14.2 hat17) rfl ?_
          refine WT.pure (v := (.int .u8 (rd r4 x11))) rfl (PO.loadC 0 pl5 rfl rfl (chunkHas0 hhas19)) rfl ?_
          refine WT.pure (v := v0) rfl (PO.move hs10_0) rfl ?_
          refine WT.pure (v := (.int .i64 x11)) rfl (PO.move hs10_5) rfl ?_
          obtain ⟨hg21, h⟩ := grd_i h
          obtain ⟨p22, cs23, hat24, hrc25, hhas26⟩ := h0.at hg21.1 hg21.2 (by decide)
          obtain rfl := hrc25
          refine WT.pure (v := (.pointer (some p22))) rfl (PO.indexAddr (n := a0.length) Try.underlying22 sz5 rfl rfl hg21.1 hg21.2 hat24) rfl ?_
          refine WT.pure (v := (.int .u8 (rd a0 x11))) rfl (PO.loadM pl5 rfl (IM.has0 hhas26)) rfl ?_
          refine WT.pure (v := (.bool (decide ((rd r4 x11) ≠ (rd a0 x11))))) rfl (PO.neq rfl rfl) rfl ?_
          refine WT.fin ?_
          refine WQ.thenC ?_
          refine WC.cond (b := decide ((rd r4 x11) ≠ (rd a0 x11))) rfl (fun hb28 => ?_) (fun hb28 => ?_)
          · have h := ite_t hb28 h
            refine WC.seq ?_
            refine WC.region ?_
            refine WL.pure (v := (.slice none 0 0)) (PO.assign rfl) rfl ?_
            refine WL.pure (v := (.bool false)) (PO.assign rfl) rfl ?_
            refine WL.nil ?_
            refine WQ.thenC ?_
            refine WC.ret ?_
            refine WQ.blockR ?_
            refine WQ.thenR ?_
            refine WQ.leaveR (Sum.inr []) (Option.some.inj h).symm (fun heq10 => ?_)
            subst heq10
            have h := (elimR hK10)
            refine WQ.blockR ?_
            refine WQ.thenR ?_
            have h := KK.early h h39
            refine WQ.drop ?_
            exact WQ.returnsF h [] rfl (results2 rfl rfl rfl) (hle7.trans hle10) ⟨(.slice none 0 0), rfl, rfl, RS.nil _ _⟩
          · have h := ite_f hb28 h
            refine WC.skip ?_
            refine WQ.blockN ?_
            refine WQ.thenC ?_
            refine WC.region ?_
            refine WL.pure (v := (.int .i64 x11)) (PO.move hs10_5) rfl ?_
            refine WL.pure (v := (.int .i64 (IntKind.i64.wrap (x11 + (1 : Int))))) (PO.add rfl rfl) rfl ?_
            refine WL.pure (v := (.int .i64 (IntKind.i64.wrap (x11 + (1 : Int))))) (PO.assign rfl) rfl ?_
            refine WL.nil ?_
            refine WQ.again (IntKind.i64.wrap (x11 + (1 : Int))) (Option.some.inj h).symm ?_
            exact ⟨hle10, rfl, hs10_0, hs10_4, rfl⟩
        · have h := ite_f hb13 h
          refine WC.exit ?_
          refine WQ.thenE ?_
          refine WQ.leaveE (Sum.inl ()) (Option.some.inj h).symm (fun heq10 => ?_)
          subst heq10
          have h := elimL hK10
          refine WQ.blockH ?_
          refine WQ.drop ?_
          refine WQ.thenFE h ?_
          exact ⟨hle10, rfl, hs10_0⟩
    · rintro _ ρ9 M9 H9 rfl ⟨hle9, rfl, hs9_0⟩
      have h0 := h0.mono hle9
      refine WC.seq ?_
      refine WC.region ?_
      refine WL.pure (v := v0) (PO.move hs9_0) rfl ?_
      refine WL.pure (v := v0) (PO.move hs9_0) rfl ?_
      refine WL.pure (v := (.int .i64 (a0.length : Int))) (PO.lenS Try.underlying22 rfl h0.len) rfl ?_
      refine WL.pure (v := (.int .i64 (IntKind.i64.wrap ((a0.length : Int) - (4 : Int))))) (PO.sub rfl rfl) rfl ?_
      obtain ⟨hg31, h⟩ := grd_i h
      have h32 := h0.sub hg31.1 hg31.2.1 hg31.2.2
      refine WL.pure (v := (slV v0 1 ((0 : Int)).toNat (IntKind.i64.wrap ((a0.length : Int) - (4 : Int))).toNat)) (PO.slice (n := a0.length) (l := ((0 : Int)).toNat) (h := (IntKind.i64.wrap ((a0.length : Int) - (4 : Int))).toNat) Try.underlying22 sz5 rfl h0.len h0.cap (bound0 rfl) ⟨_, _, rfl, (Int.le_trans hg31.1 hg31.2.1), rfl⟩ (Int.toNat_le_toNat hg31.2.1) (toNat_le_len hg31.2.2)) rfl ?_
      refine WL.pure (v := (slV v0 1 ((0 : Int)).toNat (IntKind.i64.wrap ((a0.length : Int) - (4 : Int))).toNat)) (PO.assign rfl) rfl ?_
      refine WL.pure (v := (.bool true)) (PO.assign rfl) rfl ?_
      refine WL.nil ?_
      refine WQ.thenC ?_
      refine WC.ret ?_
      exact WQ.returnsF h [] rfl (results2 rfl rfl rfl) (hle7.trans hle9) ⟨(slV v0 1 ((0 : Int)).toNat (IntKind.i64.wrap ((a0.length : Int) - (4 : Int))).toNat), rfl, rfl, h32⟩

noncomputable def f_ref02_Same_l0 (a0 : (List Int)) (a1 : (List Int)) (s_ : Int) : Option (Int ⊕ (Unit ⊕ Unit)) :=
  match s_ with
  | x4 =>
    (if (decide (x4 < (a0.length : Int))) = true then (grd (0 ≤ x4 ∧ x4 < a0.length) (grd (0 ≤ x4 ∧ x4 < a1.length) (if (decide ((rd a0 x4) ≠ (rd a1 x4))) = true then (some (Sum.inr (Sum.inr ()))) else (some (Sum.inl (IntKind.i64.wrap (x4 + (1 : Int)))))))) else (some (Sum.inr (Sum.inl ()))))
noncomputable def f_ref02_Same (a0 : (List Int)) (a1 : (List Int)) : Option Bool :=
  (if (decide ((a0.length : Int) ≠ (a1.length : Int))) = true then (some false) else ((((iter (f_ref02_Same_l0 a0 a1) (0 : Int)).bind (Sum.elim (fun _ => (some (Sum.inl ()))) (fun _ => (((some false)).bind fun r => some (Sum.inr r))))) : Option (Unit ⊕ Bool)).bind (Sum.elim (fun _ => (some true)) some)))
def f_ref02_Same_post (a0 : (List Int)) (a1 : (List Int)) (v0 v1 : Value) : Bool → Value → IM → HL → Prop :=
  fun (r0 : Bool) (v : Value) (M' : IM) (H' : HL) => (.bool r0) = v ∧ H' = []
set_option maxHeartbeats 1000000 in
set_option maxRecDepth 100000 in
theorem f_ref02_Same_ok (a0 : (List Int)) (a1 : (List Int)) (M : IM) (v0 v1 : Value) (h0 : RS (Kd.int .u8) M v0 a0) (h1 : RS (Kd.int .u8) M v1 a1) (res : Bool) (h : f_ref02_Same a0 a1 = some res) :
    Tri Try.prog 18 #[v0, v1] M [] (f_ref02_Same_post a0 a1 v0 v1 res) := by
  unfold f_ref02_Same at h
  refine Tri.enter (fn := Try.f18) Try.func18 rfl (Nat.le_of_ble_eq_true rfl) ?_
  intro F ρ hρ
  refine WC.seq ?_
  refine WC.region ?_
  refine WL.pure (v := (.bool false)) (PO.assign rfl) rfl ?_
  refine WL.nil ?_
  refine WQ.thenC ?_
  refine WC.seq ?_
  refine WC.seq ?_
  refine WC.region ?_
  refine WL.pure (v := v0) (PO.move (hρ 0)) rfl ?_
  refine WL.pure (v := (.int .i64 (a0.length : Int))) (PO.lenS Try.underlying22 rfl h0.len) rfl ?_
  refine WL.pure (v := v1) (PO.move (hρ 1)) rfl ?_
  refine WL.pure (v := (.int .i64 (a1.length : Int))) (PO.lenS Try.underlying22 rfl h1.len) rfl ?_
  refine WL.pure (v := (.bool (decide ((a0.length : Int) ≠ (a1.length : Int))))) (PO.neq rfl rfl) rfl ?_
  refine WL.nil ?_
  refine WQ.thenC ?_
  refine WC.cond (b := decide ((a0.length : Int) ≠ (a1.length : Int))) rfl (fun hb1 => ?_) (fun hb1 => ?_)
  · have h := ite_t hb1 h
    refine WC.seq ?_
    refine WC.region ?_
    refine WL.pure (v := (.bool false)) (PO.assign rfl) rfl ?_
    refine WL.nil ?_
    refine WQ.thenC ?_
    refine WC.ret ?_
    refine WQ.thenR ?_
    exact WQ.returnsF h [] rfl (results1 rfl rfl) (IM.le.refl _) ⟨rfl, rfl⟩
  · have h := ite_f hb1 h
    refine WC.skip ?_
    refine WQ.thenC ?_
    obtain ⟨j2, hj2, h⟩ := bnd h
    refine WC.joinE (fun (_ : Unit) (ρ' : Nat → Value) (M' : IM) (H' : HL) => M.le M' ∧ F = H') j2 ?_ ?_
    · have h32 := h
      have h := hj2
      refine WC.seq ?_
      refine WC.region ?_
      refine WL.pure (v := (.int .i64 (0 : Int))) (PO.assign rfl) rfl ?_
      refine WL.nil ?_
      refine WQ.thenC ?_
      refine WC.block ?_
      obtain ⟨e3, he3, hK3⟩ := bnd h
      clear h
      refine WC.loop he3 (fun (x4 : Int) (ρ' : Nat → Value) (M' : IM) (H' : HL) => M.le M' ∧ F = H' ∧ ρ' 0 = v0 ∧ ρ' 1 = v1 ∧ ρ' 5 = (.int .i64 x4)) ?_ ?_
      · exact ⟨(IM.le.refl _), rfl, (hρ 0), (hρ 1), rfl⟩
      · rintro x4 o3 ρ3 M3 H3 h ⟨hle3, rfl, hs3_0, hs3_1, hs3_5⟩
        unfold f_ref02_Same_l0 at h
        have h0 := h0.mono hle3
        have h1 := h1.mono hle3
        refine WC.seq ?_
        refine WC.seq ?_
        refine WC.region ?_
        refine WL.pure (v := (.int .i64 x4)) (PO.move hs3_5) rfl ?_
        refine WL.pure (v := v0) (PO.move hs3_0) rfl ?_
        refine WL.pure (v := (.int .i64 (a0.length : Int))) (PO.lenS Try.underlying22 rfl h0.len) rfl ?_
        refine WL.pure (v := (.bool (decide (x4 < (a0.length : Int))))) (PO.lss rfl rfl) rfl ?_
        refine WL.nil ?_
        refine WQ.thenC ?_
        refine WC.cond (b := decide (x4 < (a0.length : Int))) rfl (fun hb5 => ?_) (fun hb5 => ?_)
        · have h := ite_t hb5 h
          refine WC.skip ?_
          refine WQ.thenC ?_
          refine WC.seq ?_
          refine WC.block ?_
          refine WC.seq ?_
          refine WC.draw [0, 0, 3, 7, 0, 0, 48, 112, 255] (.pure 0 (.pure 1 (.pure 2 (.pure 3 (.pure 4 (.pure 5 (.pure 6 (.pure 7 (.pure 8 .done))))))))) mixed (by kernel_rfl) ?_
          refine WT.pure (v := v0) rfl (PO.move hs3_0) rfl ?_
          refine WT.pure (v := (.int .i64 x4)) rfl (PO.move hs3_5) rfl ?_
          obtain ⟨hg6, h⟩ := grd_i h
          obtain ⟨p7, cs8, hat9, hrc10, hhas11⟩ := h0.at hg6.1 hg6.2 (by decide)
          obtain rfl := hrc10
          refine WT.pure (v := (.pointer (some p7))) rfl (PO.indexAddr (n := a0.length) Try.underlying22 sz5 rfl rfl hg6.1 hg6.2 hat9) rfl ?_
          refine WT.pure (v := (.int .u8 (rd a0 x4))) rfl (PO.loadM pl5 rfl (IM.has0 hhas11)) rfl ?_
          refine WT.pure (v := v1) rfl (PO.move hs3_1) rfl ?_
          refine WT.pure (v := (.int .i64 x4)) rfl (PO.move hs3_5) rfl ?_
          obtain ⟨hg13, h⟩ := grd_i h
          obtain ⟨p14, cs15, hat16, hrc17, hhas18⟩ := h1.at hg13.1 hg13.2 (by decide)
          obtain rfl := hrc17
          refine WT.pure (v := (.pointer (some p14))) rfl (PO.indexAddr (n := a1.length) Try.underlying22 sz5 rfl rfl hg13.1 hg13.2 hat16) rfl ?_
          refine WT.pure (v := (.int .u8 (rd a1 x4))) rfl (PO.loadM pl5 rfl (IM.has0 hhas18)) rfl ?_
          refine WT.pure (v := (.bool (decide ((rd a0 x4) ≠ (rd a1 x4))))) rfl (PO.neq rfl rfl) rfl ?_
          refine WT.fin ?_
          refine WQ.thenC ?_
          refine WC.cond (b := decide ((rd a0 x4) ≠ (rd a1 x4))) rfl (fun hb20 => ?_) (fun hb20 => ?_)
          · have h := ite_t hb20 h
            refine WC.seq ?_
            refine WC.region ?_
            refine WL.pure (v := (.bool false)) (PO.assign rfl) rfl ?_
            refine WL.nil ?_
            refine WQ.thenC ?_
            refine WC.ret ?_
            refine WQ.blockR ?_
            refine WQ.thenR ?_
            refine WQ.leaveR (Sum.inr ()) (Option.some.inj h).symm (fun heq3 => ?_)
            subst heq3
            have h := (elimR hK3)
            refine WQ.blockR ?_
            refine WQ.thenR ?_
            have h := KK.early h h32
            exact WQ.returnsF h [] rfl (results1 rfl rfl) hle3 ⟨rfl, rfl⟩
          · have h := ite_f hb20 h
            refine WC.skip ?_
            refine WQ.blockN ?_
            refine WQ.thenC ?_
            refine WC.region ?_
            refine WL.pure (v := (.int .i64 x4)) (PO.move hs3_5) rfl ?_
            refine WL.pure (v := (.int .i64 (IntKind.i64.wrap (x4 + (1 : Int))))) (PO.add rfl rfl) rfl ?_
            refine WL.pure (v := (.int .i64 (IntKind.i64.wrap (x4 + (1 : Int))))) (PO.assign rfl) rfl ?_
            refine WL.nil ?_
            refine WQ.again (IntKind.i64.wrap (x4 + (1 : Int))) (Option.some.inj h).symm ?_
            exact ⟨hle3, rfl, hs3_0, hs3_1, rfl⟩
        · have h := ite_f hb5 h
          refine WC.exit ?_
          refine WQ.thenE ?_
          refine WQ.leaveE (Sum.inl ()) (Option.some.inj h).symm (fun heq3 => ?_)
          subst heq3
          have h := elimL hK3
          refine WQ.blockH ?_
          refine WQ.thenFE h ?_
          exact ⟨hle3, rfl⟩
    · rintro _ ρ2 M2 H2 rfl ⟨hle2, rfl⟩
      refine WC.seq ?_
      refine WC.region ?_
      refine WL.pure (v := (.bool true)) (PO.assign rfl) rfl ?_
      refine WL.nil ?_
      refine WQ.thenC ?_
      refine WC.ret ?_
      exact WQ.returnsF h [] rfl (results1 rfl rfl) hle2 ⟨rfl, rfl⟩


end Go.Proofs.Ytmifmgpfjamdkaa.G
