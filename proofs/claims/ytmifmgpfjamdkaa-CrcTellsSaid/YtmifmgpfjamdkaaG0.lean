/- Go functions: what they come to, and that they do. Printed by a program of the session (gen). -/
import Derived.Test.YtmifmgpfjamdkaaGF
set_option linter.unusedVariables false
set_option linter.unusedSimpArgs false
namespace Go.Proofs.Ytmifmgpfjamdkaa.G
open Go Go.KK

noncomputable def f_crc_half (a0 : Int) : Option Int :=
  (grd (0 ≤ andI .u32 a0 (15 : Int) ∧ andI .u32 a0 (15 : Int) < (16 : Int)) (some (rd [(0 : Int), (274646895 : Int), (549293790 : Int), (820201905 : Int), (1098587580 : Int), (1361435347 : Int), (1640403810 : Int), (1905808397 : Int), (2197175160 : Int), (2460548119 : Int), (2722870694 : Int), (2987750089 : Int), (3280807620 : Int), (3553878443 : Int), (3811616794 : Int), (4084100981 : Int)] (andI .u32 a0 (15 : Int)))))
def f_crc_half_post (a0 : Int) : Int → Value → IM → HL → Prop :=
  fun (r0 : Int) (v : Value) (M' : IM) (H' : HL) => (.int .u32 r0) = v ∧ H' = []
set_option maxHeartbeats 1000000 in
set_option maxRecDepth 100000 in
theorem f_crc_half_ok (a0 : Int) (M : IM) (res : Int) (h : f_crc_half a0 = some res) :
    Tri Try.prog 32 #[(.int .u32 a0)] M [] (f_crc_half_post a0 res) := by
  unfold f_crc_half at h
  refine Tri.enter (fn := Try.f32) Try.func32 rfl (Nat.le_of_ble_eq_true rfl) ?_
  intro F ρ hρ
  refine WC.seq ?_
  refine WC.region ?_
  refine WL.pure (v := (.int .u32 (0 : Int))) (PO.assign rfl) rfl ?_
  refine WL.nil ?_
  refine WQ.thenC ?_
  refine WC.seq ?_
  refine WC.region ?_
  refine WL.pure (v := (.agg #[(.int .u32 (0 : Int)), (.int .u32 (274646895 : Int)), (.int .u32 (549293790 : Int)), (.int .u32 (820201905 : Int)), (.int .u32 (1098587580 : Int)), (.int .u32 (1361435347 : Int)), (.int .u32 (1640403810 : Int)), (.int .u32 (1905808397 : Int)), (.int .u32 (2197175160 : Int)), (.int .u32 (2460548119 : Int)), (.int .u32 (2722870694 : Int)), (.int .u32 (2987750089 : Int)), (.int .u32 (3280807620 : Int)), (.int .u32 (3553878443 : Int)), (.int .u32 (3811616794 : Int)), (.int .u32 (4084100981 : Int))])) (PO.buildAL (cl := [(.int .u32 (0 : Int)), (.int .u32 (274646895 : Int)), (.int .u32 (549293790 : Int)), (.int .u32 (820201905 : Int)), (.int .u32 (1098587580 : Int)), (.int .u32 (1361435347 : Int)), (.int .u32 (1640403810 : Int)), (.int .u32 (1905808397 : Int)), (.int .u32 (2197175160 : Int)), (.int .u32 (2460548119 : Int)), (.int .u32 (2722870694 : Int)), (.int .u32 (2987750089 : Int)), (.int .u32 (3280807620 : Int)), (.int .u32 (3553878443 : Int)), (.int .u32 (3811616794 : Int)), (.int .u32 (4084100981 : Int))]) ze68 Try.underlying68 sz24 (Parts.cons (congrArg Value.cells (show ev _ _ = (.int .u32 (0 : Int)) from rfl)) (Parts.cons (congrArg Value.cells (show ev _ _ = (.int .u32 (274646895 : Int)) from rfl)) (Parts.cons (congrArg Value.cells (show ev _ _ = (.int .u32 (549293790 : Int)) from rfl)) (Parts.cons (congrArg Value.cells (show ev _ _ = (.int .u32 (820201905 : Int)) from rfl)) (Parts.cons (congrArg Value.cells (show ev _ _ = (.int .u32 (1098587580 : Int)) from rfl)) (Parts.cons (congrArg Value.cells (show ev _ _ = (.int .u32 (1361435347 : Int)) from rfl)) (Parts.cons (congrArg Value.cells (show ev _ _ = (.int .u32 (1640403810 : Int)) from rfl)) (Parts.cons (congrArg Value.cells (show ev _ _ = (.int .u32 (1905808397 : Int)) from rfl)) (Parts.cons (congrArg Value.cells (show ev _ _ = (.int .u32 (2197175160 : Int)) from rfl)) (Parts.cons (congrArg Value.cells (show ev _ _ = (.int .u32 (2460548119 : Int)) from rfl)) (Parts.cons (congrArg Value.cells (show ev _ _ = (.int .u32 (2722870694 : Int)) from rfl)) (Parts.cons (congrArg Value.cells (show ev _ _ = (.int .u32 (2987750089 : Int)) from rfl)) (Parts.cons (congrArg Value.cells (show ev _ _ = (.int .u32 (3280807620 : Int)) from rfl)) (Parts.cons (congrArg Value.cells (show ev _ _ = (.int .u32 (3553878443 : Int)) from rfl)) (Parts.cons (congrArg Value.cells (show ev _ _ = (.int .u32 (3811616794 : Int)) from rfl)) (Parts.cons (congrArg Value.cells (show ev _ _ = (.int .u32 (4084100981 : Int)) from rfl)) Parts.nil)))))))))))))))) rfl) rfl ?_
  refine WL.eff (EO.alloc ze68 rfl) rfl ?_
  rintro _ _ _ - ⟨rfl, g1, rfl, rfl⟩
  refine WL.eff (EO.store (v := (.agg #[(.int .u32 (0 : Int)), (.int .u32 (274646895 : Int)), (.int .u32 (549293790 : Int)), (.int .u32 (820201905 : Int)), (.int .u32 (1098587580 : Int)), (.int .u32 (1361435347 : Int)), (.int .u32 (1640403810 : Int)), (.int .u32 (1905808397 : Int)), (.int .u32 (2197175160 : Int)), (.int .u32 (2460548119 : Int)), (.int .u32 (2722870694 : Int)), (.int .u32 (2987750089 : Int)), (.int .u32 (3280807620 : Int)), (.int .u32 (3553878443 : Int)), (.int .u32 (3811616794 : Int)), (.int .u32 (4084100981 : Int))])) (arr' := #[(.int .u32 (0 : Int)), (.int .u32 (274646895 : Int)), (.int .u32 (549293790 : Int)), (.int .u32 (820201905 : Int)), (.int .u32 (1098587580 : Int)), (.int .u32 (1361435347 : Int)), (.int .u32 (1640403810 : Int)), (.int .u32 (1905808397 : Int)), (.int .u32 (2197175160 : Int)), (.int .u32 (2460548119 : Int)), (.int .u32 (2722870694 : Int)), (.int .u32 (2987750089 : Int)), (.int .u32 (3280807620 : Int)), (.int .u32 (3553878443 : Int)), (.int .u32 (3811616794 : Int)), (.int .u32 (4084100981 : Int))]) sz68 rfl rfl (onesOf (Ones.cons rfl (Ones.cons rfl (Ones.cons rfl (Ones.cons rfl (Ones.cons rfl (Ones.cons rfl (Ones.cons rfl (Ones.cons rfl (Ones.cons rfl (Ones.cons rfl (Ones.cons rfl (Ones.cons rfl (Ones.cons rfl (Ones.cons rfl (Ones.cons rfl (Ones.cons rfl Ones.nil))))))))))))))))) (by decide) (.inl (by decide)) rfl) rfl ?_
  rintro _ _ _ - ⟨rfl, rfl⟩
  refine WL.nil ?_
  refine WQ.thenC ?_
  refine WC.seq ?_
  refine WC.region ?_
  refine WL.pure (v := (.int .u32 a0)) (PO.move (hρ 0)) rfl ?_
  refine WL.pure (v := (.int .u32 (andI .u32 a0 (15 : Int)))) (PO.and rfl rfl) rfl ?_
  obtain ⟨hg2, h⟩ := grd_i h
  refine WL.pure (v := (.pointer (some ⟨g1, (andI .u32 a0 (15 : Int)).toNat, none⟩))) (PO.indexArr Try.underlying68 sz24 rfl rfl hg2.1 hg2.2 addI1) rfl ?_
  refine WL.pure (v := (.int .u32 (rd [(0 : Int), (274646895 : Int), (549293790 : Int), (820201905 : Int), (1098587580 : Int), (1361435347 : Int), (1640403810 : Int), (1905808397 : Int), (2197175160 : Int), (2460548119 : Int), (2722870694 : Int), (2987750089 : Int), (3280807620 : Int), (3553878443 : Int), (3811616794 : Int), (4084100981 : Int)] (andI .u32 a0 (15 : Int))))) (PO.loadArr (xs := [(0 : Int), (274646895 : Int), (549293790 : Int), (820201905 : Int), (1098587580 : Int), (1361435347 : Int), (1640403810 : Int), (1905808397 : Int), (2197175160 : Int), (2460548119 : Int), (2722870694 : Int), (2987750089 : Int), (3280807620 : Int), (3553878443 : Int), (3811616794 : Int), (4084100981 : Int)]) 0 pl24 rfl rfl rfl hg2.1 hg2.2) rfl ?_
  refine WL.pure (v := (.int .u32 (rd [(0 : Int), (274646895 : Int), (549293790 : Int), (820201905 : Int), (1098587580 : Int), (1361435347 : Int), (1640403810 : Int), (1905808397 : Int), (2197175160 : Int), (2460548119 : Int), (2722870694 : Int), (2987750089 : Int), (3280807620 : Int), (3553878443 : Int), (3811616794 : Int), (4084100981 : Int)] (andI .u32 a0 (15 : Int))))) (PO.assign rfl) rfl ?_
  refine WL.nil ?_
  refine WQ.thenC ?_
  refine WC.ret ?_
  refine WQ.drop ?_
  exact WQ.returnsF h [] rfl (results1 rfl rfl) (IM.le.refl _) ⟨rfl, rfl⟩

noncomputable def f_crc_More_l0 (a1 : (List Int)) (s_ : (Int × Int)) : Option ((Int × Int) ⊕ Int) :=
  match s_ with
  | (x4, x5) =>
    (if (decide (x5 < (a1.length : Int))) = true then (grd (0 ≤ x5 ∧ x5 < a1.length) ((f_crc_half (xorI .u32 x4 (IntKind.u32.wrap (rd a1 x5)))).bind fun (r15 : Int) => ((f_crc_half (xorI .u32 (shrI .u32 (xorI .u32 x4 (IntKind.u32.wrap (rd a1 x5))) (4 : Int)) r15)).bind fun (r20 : Int) => (some (Sum.inl (xorI .u32 (shrI .u32 (xorI .u32 (shrI .u32 (xorI .u32 x4 (IntKind.u32.wrap (rd a1 x5))) (4 : Int)) r15) (4 : Int)) r20, IntKind.i64.wrap (x5 + (1 : Int)))))))) else (some (Sum.inr x4)))
noncomputable def f_crc_More (a0 : Int) (a1 : (List Int)) : Option Int :=
  ((((iter (f_crc_More_l0 a1) (notI .u32 a0, (0 : Int))).bind (fun (x6 : Int) => (some x6))) : Option Int).bind fun (x1 : Int) => (some (notI .u32 x1)))
def f_crc_More_post (a0 : Int) (a1 : (List Int)) (v1 : Value) : Int → Value → IM → HL → Prop :=
  fun (r0 : Int) (v : Value) (M' : IM) (H' : HL) => (.int .u32 r0) = v ∧ H' = []
set_option maxHeartbeats 1000000 in
set_option maxRecDepth 100000 in
theorem f_crc_More_ok (a0 : Int) (a1 : (List Int)) (M : IM) (v1 : Value) (h1 : RS (Kd.int .u8) M v1 a1) (res : Int) (h : f_crc_More a0 a1 = some res) :
    Tri Try.prog 14 #[(.int .u32 a0), v1] M [] (f_crc_More_post a0 a1 v1 res) := by
  unfold f_crc_More at h
  refine Tri.enter (fn := Try.f14) Try.func14 rfl (Nat.le_of_ble_eq_true rfl) ?_
  intro F ρ hρ
  refine WC.seq ?_
  refine WC.region ?_
  refine WL.pure (v := (.int .u32 (0 : Int))) (PO.assign rfl) rfl ?_
  refine WL.nil ?_
  refine WQ.thenC ?_
  refine WC.seq ?_
  refine WC.region ?_
  refine WL.pure (v := (.int .u32 a0)) (PO.move (hρ 0)) rfl ?_
  refine WL.pure (v := (.int .u32 (notI .u32 a0))) (PO.com rfl) rfl ?_
  refine WL.pure (v := (.int .u32 (notI .u32 a0))) (PO.assign rfl) rfl ?_
  refine WL.nil ?_
  refine WQ.thenC ?_
  obtain ⟨x1, hj2, h⟩ := bnd h
  refine WC.joinF (fun (x1 : Int) (ρ' : Nat → Value) (M' : IM) (H' : HL) => M.le M' ∧ F = H' ∧ ρ' 0 = (.int .u32 x1)) x1 ?_ ?_
  · have h32 := h
    have h := hj2
    refine WC.seq ?_
    refine WC.region ?_
    refine WL.pure (v := v1) (PO.move (hρ 1)) rfl ?_
    refine WL.pure (v := (.int .i64 (a1.length : Int))) (PO.lenS Try.underlying22 rfl h1.len) rfl ?_
    refine WL.pure (v := (.int .i64 (0 : Int))) (PO.move rfl) rfl ?_
    refine WL.nil ?_
    refine WQ.thenC ?_
    refine WC.block ?_
    obtain ⟨e3, he3, hK3⟩ := bnd h
    clear h
    refine WC.loop he3 (fun (p_ : (Int × Int)) (ρ' : Nat → Value) (M' : IM) (H' : HL) => match p_ with | (x4, x5) => M.le M' ∧ F = H' ∧ ρ' 0 = (.int .u32 x4) ∧ ρ' 9 = v1 ∧ ρ' 10 = (.int .i64 (a1.length : Int)) ∧ ρ' 11 = (.int .i64 x5)) ?_ ?_
    · exact ⟨(IM.le.refl _), rfl, rfl, rfl, rfl, rfl⟩
    · rintro ⟨x4, x5⟩ o3 ρ3 M3 H3 h ⟨hle3, rfl, hs3_0, hs3_9, hs3_10, hs3_11⟩
      unfold f_crc_More_l0 at h
      have h1 := h1.mono hle3
      refine WC.seq ?_
      refine WC.region ?_
      refine WL.pure (v := (.bool (decide (x5 < (a1.length : Int))))) (PO.lss hs3_11 hs3_10) rfl ?_
      refine WL.nil ?_
      refine WQ.thenC ?_
      refine WC.seq ?_
      refine WC.cond (b := decide (x5 < (a1.length : Int))) rfl (fun hb7 => ?_) (fun hb7 => ?_)
      · have h := ite_t hb7 h
        refine WC.skip ?_
        refine WQ.thenC ?_
        refine WC.seq ?_
        refine WC.block ?_
        refine WC.seq ?_
        refine WC.region ?_
        obtain ⟨hg8, h⟩ := grd_i h
        obtain ⟨p9, cs10, hat11, hrc12, hhas13⟩ := h1.at hg8.1 hg8.2 (by decide)
        obtain rfl := hrc12
        refine WL.pure (v := (.pointer (some p9))) (PO.indexAddr (n := a1.length) Try.underlying22 sz5 hs3_9 hs3_11 hg8.1 hg8.2 hat11) rfl ?_
        refine WL.pure (v := (.int .u8 (rd a1 x5))) (PO.loadM pl5 rfl (IM.has0 hhas13)) rfl ?_
        refine WL.pure (v := (.int .u8 (rd a1 x5))) (PO.assign rfl) rfl ?_
        refine WL.nil ?_
        refine WQ.thenC ?_
        refine WC.seq ?_
        refine WC.region ?_
        refine WL.pure (v := (.int .u32 x4)) (PO.move hs3_0) rfl ?_
        refine WL.pure (v := (.int .u8 (rd a1 x5))) (PO.move rfl) rfl ?_
        refine WL.pure (v := (.int .u32 (IntKind.u32.wrap (rd a1 x5)))) (PO.conv us5 Try.underlying24 rfl) rfl ?_
        refine WL.pure (v := (.int .u32 (xorI .u32 x4 (IntKind.u32.wrap (rd a1 x5))))) (PO.xor rfl rfl) rfl ?_
        refine WL.pure (v := (.int .u32 (xorI .u32 x4 (IntKind.u32.wrap (rd a1 x5))))) (PO.assign rfl) rfl ?_
        refine WL.nil ?_
        refine WQ.thenC ?_
        refine WC.seq ?_
        refine WC.region ?_
        refine WL.pure (v := (.int .u32 (xorI .u32 x4 (IntKind.u32.wrap (rd a1 x5))))) (PO.move rfl) rfl ?_
        refine WL.pure (v := (.int .u32 (shrI .u32 (xorI .u32 x4 (IntKind.u32.wrap (rd a1 x5))) (4 : Int)))) (PO.shr rfl rfl (by decide)) rfl ?_
        refine WL.pure (v := (.int .u32 (xorI .u32 x4 (IntKind.u32.wrap (rd a1 x5))))) (PO.move rfl) rfl ?_
        obtain ⟨r15, hr16, h⟩ := bnd h
        refine WL.eff (EO.call0 co32 (args1 (show ev _ _ = (.int .u32 (xorI .u32 x4 (IntKind.u32.wrap (rd a1 x5)))) from rfl)) (f_crc_half_ok (xorI .u32 x4 (IntKind.u32.wrap (rd a1 x5))) _ r15 hr16)) rfl ?_
        rintro _ M17 _ hle18 ⟨_, ⟨rfl, rfl⟩, rfl⟩
        have h1 := h1.mono hle18
        refine WL.a0 ?_
        refine WL.pure (v := (.int .u32 (xorI .u32 (shrI .u32 (xorI .u32 x4 (IntKind.u32.wrap (rd a1 x5))) (4 : Int)) r15))) (PO.xor rfl rfl) rfl ?_
        refine WL.pure (v := (.int .u32 (xorI .u32 (shrI .u32 (xorI .u32 x4 (IntKind.u32.wrap (rd a1 x5))) (4 : Int)) r15))) (PO.assign rfl) rfl ?_
        refine WL.nil ?_
        refine WQ.thenC ?_
        refine WC.region ?_
        refine WL.pure (v := (.int .u32 (xorI .u32 (shrI .u32 (xorI .u32 x4 (IntKind.u32.wrap (rd a1 x5))) (4 : Int)) r15))) (PO.move rfl) rfl ?_
        refine WL.pure (v := (.int .u32 (shrI .u32 (xorI .u32 (shrI .u32 (xorI .u32 x4 (IntKind.u32.wrap (rd a1 x5))) (4 : Int)) r15) (4 : Int)))) (PO.shr rfl rfl (by decide)) rfl ?_
        refine WL.pure (v := (.int .u32 (xorI .u32 (shrI .u32 (xorI .u32 x4 (IntKind.u32.wrap (rd a1 x5))) (4 : Int)) r15))) (PO.move rfl) rfl ?_
        obtain ⟨r20, hr21, h⟩ := bnd h
        refine WL.eff (EO.call0 co32 (args1 (show ev _ _ = (.int .u32 (xorI .u32 (shrI .u32 (xorI .u32 x4 (IntKind.u32.wrap (rd a1 x5))) (4 : Int)) r15)) from rfl)) (f_crc_half_ok (xorI .u32 (shrI .u32 (xorI .u32 x4 (IntKind.u32.wrap (rd a1 x5))) (4 : Int)) r15) _ r20 hr21)) rfl ?_
        rintro _ M22 _ hle23 ⟨_, ⟨rfl, rfl⟩, rfl⟩
        have h1 := h1.mono hle23
        refine WL.a0 ?_
        refine WL.pure (v := (.int .u32 (xorI .u32 (shrI .u32 (xorI .u32 (shrI .u32 (xorI .u32 x4 (IntKind.u32.wrap (rd a1 x5))) (4 : Int)) r15) (4 : Int)) r20))) (PO.xor rfl rfl) rfl ?_
        refine WL.pure (v := (.int .u32 (xorI .u32 (shrI .u32 (xorI .u32 (shrI .u32 (xorI .u32 x4 (IntKind.u32.wrap (rd a1 x5))) (4 : Int)) r15) (4 : Int)) r20))) (PO.assign rfl) rfl ?_
        refine WL.nil ?_
        refine WQ.blockN ?_
        refine WQ.thenC ?_
        refine WC.region ?_
        refine WL.pure (v := (.int .i64 (IntKind.i64.wrap (x5 + (1 : Int))))) (PO.add hs3_11 rfl) rfl ?_
        refine WL.pure (v := (.int .i64 (IntKind.i64.wrap (x5 + (1 : Int))))) (PO.move rfl) rfl ?_
        refine WL.nil ?_
        refine WQ.again (xorI .u32 (shrI .u32 (xorI .u32 (shrI .u32 (xorI .u32 x4 (IntKind.u32.wrap (rd a1 x5))) (4 : Int)) r15) (4 : Int)) r20, IntKind.i64.wrap (x5 + (1 : Int))) (Option.some.inj h).symm ?_
        exact ⟨((hle3.trans hle18).trans hle23), rfl, rfl, hs3_9, hs3_10, rfl⟩
      · have h := ite_f hb7 h
        refine WC.exit ?_
        refine WQ.thenE ?_
        refine WQ.leaveE x4 (Option.some.inj h).symm (fun heq3 => ?_)
        subst heq3
        have h := hK3
        refine WQ.blockH ?_
        obtain rfl := Option.some.inj h
        refine WQ.thenJ ?_
        exact ⟨hle3, rfl, hs3_0⟩
  · rintro ρ2 M2 H2 ⟨hle2, rfl, hs2_0⟩
    refine WC.seq ?_
    refine WC.region ?_
    refine WL.pure (v := (.int .u32 x1)) (PO.move hs2_0) rfl ?_
    refine WL.pure (v := (.int .u32 (notI .u32 x1))) (PO.com rfl) rfl ?_
    refine WL.pure (v := (.int .u32 (notI .u32 x1))) (PO.assign rfl) rfl ?_
    refine WL.nil ?_
    refine WQ.thenC ?_
    refine WC.ret ?_
    exact WQ.returnsF h [] rfl (results1 rfl rfl) hle2 ⟨rfl, rfl⟩

noncomputable def f_crc_Sum (a0 : (List Int)) : Option Int :=
  ((f_crc_More (0 : Int) a0).bind fun (r1 : Int) => (some r1))
def f_crc_Sum_post (a0 : (List Int)) (v0 : Value) : Int → Value → IM → HL → Prop :=
  fun (r0 : Int) (v : Value) (M' : IM) (H' : HL) => (.int .u32 r0) = v ∧ H' = []
set_option maxHeartbeats 1000000 in
set_option maxRecDepth 100000 in
theorem f_crc_Sum_ok (a0 : (List Int)) (M : IM) (v0 : Value) (h0 : RS (Kd.int .u8) M v0 a0) (res : Int) (h : f_crc_Sum a0 = some res) :
    Tri Try.prog 12 #[v0] M [] (f_crc_Sum_post a0 v0 res) := by
  unfold f_crc_Sum at h
  refine Tri.enter (fn := Try.f12) Try.func12 rfl (Nat.le_of_ble_eq_true rfl) ?_
  intro F ρ hρ
  refine WC.seq ?_
  refine WC.region ?_
  refine WL.pure (v := (.int .u32 (0 : Int))) (PO.assign rfl) rfl ?_
  refine WL.nil ?_
  refine WQ.thenC ?_
  refine WC.seq ?_
  refine WC.region ?_
  refine WL.pure (v := v0) (PO.move (hρ 0)) rfl ?_
  obtain ⟨r1, hr2, h⟩ := bnd h
  refine WL.eff (EO.call0 co14 (args2 (show ev _ _ = (.int .u32 (0 : Int)) from rfl) (show ev _ _ = v0 from rfl)) (f_crc_More_ok (0 : Int) a0 _ _ h0 r1 hr2)) rfl ?_
  rintro _ M3 _ hle4 ⟨_, ⟨rfl, rfl⟩, rfl⟩
  have h0 := h0.mono hle4
  refine WL.a0 ?_
  refine WL.pure (v := (.int .u32 r1)) (PO.assign rfl) rfl ?_
  refine WL.nil ?_
  refine WQ.thenC ?_
  refine WC.ret ?_
  exact WQ.returnsF h [] rfl (results1 rfl rfl) hle4 ⟨rfl, rfl⟩

noncomputable def f_crc_Put (a0 : (List Int)) : Option (List Int) :=
  ((f_crc_Sum a0).bind fun (r1 : Int) => (grd (0 ≤ IntKind.i64.wrap ((a0.length : Int) + (4 : Int)) ∧ IntKind.i64.wrap ((a0.length : Int) + (4 : Int)) ≤ 274877906944) (grd (([] : List Int).length + a0.length ≤ 274877906944) (grd ((([] : List Int) ++ a0).length + [IntKind.u8.wrap r1, IntKind.u8.wrap (shrI .u32 r1 (8 : Int)), IntKind.u8.wrap (shrI .u32 r1 (16 : Int)), IntKind.u8.wrap (shrI .u32 r1 (24 : Int))].length ≤ 274877906944) (some ((([] : List Int) ++ a0) ++ [IntKind.u8.wrap r1, IntKind.u8.wrap (shrI .u32 r1 (8 : Int)), IntKind.u8.wrap (shrI .u32 r1 (16 : Int)), IntKind.u8.wrap (shrI .u32 r1 (24 : Int))]))))))
def f_crc_Put_post (a0 : (List Int)) (v0 : Value) : (List Int) → Value → IM → HL → Prop :=
  fun (r0 : (List Int)) (v : Value) (M' : IM) (H' : HL) => ∃ vz0 cz0, vz0 = v ∧ H' = [cz0] ∧ OwnS (Kd.int .u8) M' vz0 r0 cz0
set_option maxHeartbeats 1000000 in
set_option maxRecDepth 100000 in
theorem f_crc_Put_ok (a0 : (List Int)) (M : IM) (v0 : Value) (h0 : RS (Kd.int .u8) M v0 a0) (res : (List Int)) (h : f_crc_Put a0 = some res) :
    Tri Try.prog 17 #[v0] M [] (f_crc_Put_post a0 v0 res) := by
  unfold f_crc_Put at h
  refine Tri.enter (fn := Try.f17) Try.func17 rfl (Nat.le_of_ble_eq_true rfl) ?_
  intro F ρ hρ
  refine WC.seq ?_
  refine WC.region ?_
  refine WL.pure (v := (.slice none 0 0)) (PO.assign rfl) rfl ?_
  refine WL.nil ?_
  refine WQ.thenC ?_
  refine WC.seq ?_
  refine WC.region ?_
  refine WL.pure (v := v0) (PO.move (hρ 0)) rfl ?_
  obtain ⟨r1, hr2, h⟩ := bnd h
  refine WL.eff (EO.call0 co12 (args1 (show ev _ _ = v0 from rfl)) (f_crc_Sum_ok a0 _ _ h0 r1 hr2)) rfl ?_
  rintro _ M3 _ hle4 ⟨_, ⟨rfl, rfl⟩, rfl⟩
  have h0 := h0.mono hle4
  refine WL.a0 ?_
  refine WL.pure (v := (.int .u32 r1)) (PO.assign rfl) rfl ?_
  refine WL.nil ?_
  refine WQ.thenC ?_
  refine WC.seq ?_
  refine WC.region ?_
  refine WL.pure (v := v0) (PO.move (hρ 0)) rfl ?_
  refine WL.pure (v := (.int .i64 (a0.length : Int))) (PO.lenS Try.underlying22 rfl h0.len) rfl ?_
  refine WL.pure (v := (.int .i64 (IntKind.i64.wrap ((a0.length : Int) + (4 : Int))))) (PO.add rfl rfl) rfl ?_
  obtain ⟨hg9, h⟩ := grd_i h
  refine WL.eff (EO.makeCap (dd := (Kd.int .u8)) Try.underlying22 in5 rfl rfl rfl hg9.1 (by decide) (makeB rfl hg9.1 hg9.2)) rfl ?_
  rintro v8 _ _ - ⟨rfl, c6, rfl, h7⟩
  refine WL.pure (v := v8) (PO.assign rfl) rfl ?_
  refine WL.nil ?_
  refine WQ.thenC ?_
  refine WC.seq ?_
  refine WC.region ?_
  refine WL.pure (v := v8) (PO.move rfl) rfl ?_
  refine WL.pure (v := v0) (PO.move (hρ 0)) rfl ?_
  obtain ⟨hg13, h⟩ := grd_i h
  refine WL.eff (EO.append (dd := (Kd.int .u8)) (xs := ([] : List Int)) (ys := a0) Try.underlying22 Try.underlying22 in5 rfl (appB (by decide) hg13) (by decide) rfl rfl h7 (h0.src _)) rfl ?_
  rintro v12 _ _ - ⟨rfl, c10, rfl, h11⟩
  refine WL.pure (v := v12) (PO.assign rfl) rfl ?_
  refine WL.nil ?_
  refine WQ.thenC ?_
  refine WC.seq ?_
  refine WC.region ?_
  refine WL.pure (v := v12) (PO.move rfl) rfl ?_
  refine WL.pure (v := (.int .u32 r1)) (PO.move rfl) rfl ?_
  refine WL.pure (v := (.int .u8 (IntKind.u8.wrap r1))) (PO.conv us24 Try.underlying5 rfl) rfl ?_
  refine WL.pure (v := (.int .u32 r1)) (PO.move rfl) rfl ?_
  refine WL.pure (v := (.int .u32 (shrI .u32 r1 (8 : Int)))) (PO.shr rfl rfl (by decide)) rfl ?_
  refine WL.pure (v := (.int .u8 (IntKind.u8.wrap (shrI .u32 r1 (8 : Int))))) (PO.conv us24 Try.underlying5 rfl) rfl ?_
  refine WL.pure (v := (.int .u32 r1)) (PO.move rfl) rfl ?_
  refine WL.pure (v := (.int .u32 (shrI .u32 r1 (16 : Int)))) (PO.shr rfl rfl (by decide)) rfl ?_
  refine WL.pure (v := (.int .u8 (IntKind.u8.wrap (shrI .u32 r1 (16 : Int))))) (PO.conv us24 Try.underlying5 rfl) rfl ?_
  refine WL.pure (v := (.int .u32 r1)) (PO.move rfl) rfl ?_
  refine WL.pure (v := (.int .u32 (shrI .u32 r1 (24 : Int)))) (PO.shr rfl rfl (by decide)) rfl ?_
  refine WL.pure (v := (.int .u8 (IntKind.u8.wrap (shrI .u32 r1 (24 : Int))))) (PO.conv us24 Try.underlying5 rfl) rfl ?_
  refine WL.eff (EO.buildSliceL (cl := [(.int .u8 (IntKind.u8.wrap r1)), (.int .u8 (IntKind.u8.wrap (shrI .u32 r1 (8 : Int)))), (.int .u8 (IntKind.u8.wrap (shrI .u32 r1 (16 : Int)))), (.int .u8 (IntKind.u8.wrap (shrI .u32 r1 (24 : Int))))]) Try.underlying22 iz5 rfl (Parts.cons (congrArg Value.cells (show ev _ _ = (.int .u8 (IntKind.u8.wrap r1)) from rfl)) (Parts.cons (congrArg Value.cells (show ev _ _ = (.int .u8 (IntKind.u8.wrap (shrI .u32 r1 (8 : Int)))) from rfl)) (Parts.cons (congrArg Value.cells (show ev _ _ = (.int .u8 (IntKind.u8.wrap (shrI .u32 r1 (16 : Int)))) from rfl)) (Parts.cons (congrArg Value.cells (show ev _ _ = (.int .u8 (IntKind.u8.wrap (shrI .u32 r1 (24 : Int)))) from rfl)) Parts.nil)))) rfl) rfl ?_
  rintro _ _ _ - ⟨rfl, g14, rfl, rfl⟩
  have h16 : OwnS (Kd.int .u8) M3 (.slice (some ⟨g14, 0, none⟩) 4 4) [IntKind.u8.wrap r1, IntKind.u8.wrap (shrI .u32 r1 (8 : Int)), IntKind.u8.wrap (shrI .u32 r1 (16 : Int)), IntKind.u8.wrap (shrI .u32 r1 (24 : Int))] [(g14, .cells #[(.int .u8 (IntKind.u8.wrap r1)), (.int .u8 (IntKind.u8.wrap (shrI .u32 r1 (8 : Int)))), (.int .u8 (IntKind.u8.wrap (shrI .u32 r1 (16 : Int)))), (.int .u8 (IntKind.u8.wrap (shrI .u32 r1 (24 : Int))))] 5 (0, 0))] := OwnS.rows (css := [[(.int .u8 (IntKind.u8.wrap r1))], [(.int .u8 (IntKind.u8.wrap (shrI .u32 r1 (8 : Int))))], [(.int .u8 (IntKind.u8.wrap (shrI .u32 r1 (16 : Int))))], [(.int .u8 (IntKind.u8.wrap (shrI .u32 r1 (24 : Int))))]]) (Rows.cons rfl (Rows.cons rfl (Rows.cons rfl (Rows.cons rfl Rows.nil)))) rfl rfl
  obtain ⟨hg20, h⟩ := grd_i h
  refine WL.f1 ?_
  refine WL.eff (EO.append (dd := (Kd.int .u8)) (xs := ([] : List Int) ++ a0) (ys := [IntKind.u8.wrap r1, IntKind.u8.wrap (shrI .u32 r1 (8 : Int)), IntKind.u8.wrap (shrI .u32 r1 (16 : Int)), IntKind.u8.wrap (shrI .u32 r1 (24 : Int))]) Try.underlying22 Try.underlying22 in5 rfl (appB (by decide) hg20) (by decide) rfl rfl h11 (h16.src 1 rfl)) rfl ?_
  rintro v19 _ _ - ⟨rfl, c17, rfl, h18⟩
  refine WL.pure (v := v19) (PO.assign rfl) rfl ?_
  refine WL.nil ?_
  refine WQ.thenC ?_
  refine WC.ret ?_
  refine WQ.f1 ?_
  refine WQ.drop ?_
  exact WQ.returnsF h [c17] rfl (results1 rfl rfl) hle4 ⟨v19, c17, rfl, rfl, h18⟩

noncomputable def f_crc_Open (a0 : (List Int)) : Option ((List Int) × Bool) :=
  (if (decide ((IntKind.i64.wrap ((a0.length : Int) - (4 : Int))) < (0 : Int))) = true then (some ([], false)) else (grd (0 ≤ IntKind.i64.wrap ((a0.length : Int) - (4 : Int)) ∧ IntKind.i64.wrap ((a0.length : Int) - (4 : Int)) < a0.length) (grd (0 ≤ IntKind.i64.wrap ((IntKind.i64.wrap ((a0.length : Int) - (4 : Int))) + (1 : Int)) ∧ IntKind.i64.wrap ((IntKind.i64.wrap ((a0.length : Int) - (4 : Int))) + (1 : Int)) < a0.length) (grd (0 ≤ IntKind.i64.wrap ((IntKind.i64.wrap ((a0.length : Int) - (4 : Int))) + (2 : Int)) ∧ IntKind.i64.wrap ((IntKind.i64.wrap ((a0.length : Int) - (4 : Int))) + (2 : Int)) < a0.length) (grd (0 ≤ IntKind.i64.wrap ((IntKind.i64.wrap ((a0.length : Int) - (4 : Int))) + (3 : Int)) ∧ IntKind.i64.wrap ((IntKind.i64.wrap ((a0.length : Int) - (4 : Int))) + (3 : Int)) < a0.length) (grd (0 ≤ (0 : Int) ∧ (0 : Int) ≤ IntKind.i64.wrap ((a0.length : Int) - (4 : Int)) ∧ IntKind.i64.wrap ((a0.length : Int) - (4 : Int)) ≤ (a0.length : Int)) ((f_crc_Sum (sub a0 (0 : Int) (IntKind.i64.wrap ((a0.length : Int) - (4 : Int))))).bind fun (r33 : Int) => (if (decide (r33 ≠ (orI .u32 (orI .u32 (orI .u32 (IntKind.u32.wrap (rd a0 (IntKind.i64.wrap ((a0.length : Int) - (4 : Int))))) (shlI .u32 (IntKind.u32.wrap (rd a0 (IntKind.i64.wrap ((IntKind.i64.wrap ((a0.length : Int) - (4 : Int))) + (1 : Int))))) (8 : Int))) (shlI .u32 (IntKind.u32.wrap (rd a0 (IntKind.i64.wrap ((IntKind.i64.wrap ((a0.length : Int) - (4 : Int))) + (2 : Int))))) (16 : Int))) (shlI .u32 (IntKind.u32.wrap (rd a0 (IntKind.i64.wrap ((IntKind.i64.wrap ((a0.length : Int) - (4 : Int))) + (3 : Int))))) (24 : Int))))) = true then (some ([], false)) else (grd (0 ≤ IntKind.i64.wrap ((a0.length : Int) - (4 : Int)) ∧ IntKind.i64.wrap ((a0.length : Int) - (4 : Int)) ≤ 274877906944) (some (a0.take (List.replicate (IntKind.i64.wrap ((a0.length : Int) - (4 : Int))).toNat (0 : Int)).length ++ (List.replicate (IntKind.i64.wrap ((a0.length : Int) - (4 : Int))).toNat (0 : Int)).drop a0.length, true)))))))))))
def f_crc_Open_post (a0 : (List Int)) (v0 : Value) : ((List Int) × Bool) → Value → IM → HL → Prop :=
  fun (p_ : ((List Int) × Bool)) (v : Value) (M' : IM) (H' : HL) => match p_ with | (r0, r1) => ∃ vz0 cz0, (.tuple #[vz0, (.bool r1)]) = v ∧ H' = [cz0] ∧ OwnS (Kd.int .u8) M' vz0 r0 cz0
set_option maxHeartbeats 1000000 in
set_option maxRecDepth 100000 in
theorem f_crc_Open_ok (a0 : (List Int)) (M : IM) (v0 : Value) (h0 : RS (Kd.int .u8) M v0 a0) (res : ((List Int) × Bool)) (h : f_crc_Open a0 = some res) :
    Tri Try.prog 15 #[v0] M [] (f_crc_Open_post a0 v0 res) := by
  unfold f_crc_Open at h
  refine Tri.enter (fn := Try.f15) Try.func15 rfl (Nat.le_of_ble_eq_true rfl) ?_
  intro F ρ hρ
  refine WC.seq ?_
  refine WC.region ?_
  refine WL.pure (v := (.slice none 0 0)) (PO.assign rfl) rfl ?_
  refine WL.pure (v := (.bool false)) (PO.assign rfl) rfl ?_
  refine WL.nil ?_
  refine WQ.thenC ?_
  refine WC.seq ?_
  refine WC.region ?_
  refine WL.pure (v := v0) (PO.move (hρ 0)) rfl ?_
  refine WL.pure (v := (.int .i64 (a0.length : Int))) (PO.lenS Try.underlying22 rfl h0.len) rfl ?_
  refine WL.pure (v := (.int .i64 (IntKind.i64.wrap ((a0.length : Int) - (4 : Int))))) (PO.sub rfl rfl) rfl ?_
  refine WL.pure (v := (.int .i64 (IntKind.i64.wrap ((a0.length : Int) - (4 : Int))))) (PO.assign rfl) rfl ?_
  refine WL.nil ?_
  refine WQ.thenC ?_
  refine WC.seq ?_
  refine WC.seq ?_
  refine WC.region ?_
  refine WL.pure (v := (.int .i64 (IntKind.i64.wrap ((a0.length : Int) - (4 : Int))))) (PO.move rfl) rfl ?_
  refine WL.pure (v := (.bool (decide ((IntKind.i64.wrap ((a0.length : Int) - (4 : Int))) < (0 : Int))))) (PO.lss rfl rfl) rfl ?_
  refine WL.nil ?_
  refine WQ.thenC ?_
  refine WC.cond (b := decide ((IntKind.i64.wrap ((a0.length : Int) - (4 : Int))) < (0 : Int))) rfl (fun hb1 => ?_) (fun hb1 => ?_)
  · have h := ite_t hb1 h
    refine WC.seq ?_
    refine WC.region ?_
    refine WL.pure (v := (.slice none 0 0)) (PO.assign rfl) rfl ?_
    refine WL.pure (v := (.bool false)) (PO.assign rfl) rfl ?_
    refine WL.nil ?_
    refine WQ.thenC ?_
    refine WC.ret ?_
    refine WQ.thenR ?_
    refine WQ.e0 ?_
    exact WQ.returnsF h [[]] rfl (results2 rfl rfl rfl) (IM.le.refl _) ⟨(.slice none 0 0), [], rfl, rfl, (OwnS.nil _ _)⟩
  · have h := ite_f hb1 h
    refine WC.skip ?_
    refine WQ.thenC ?_
    refine WC.seq ?_
    refine WC.draw [0, 0, 3, 7, 15, 0, 0, 64, 224, 480, 992, 2016, 4095, 0, 0, 16384, 57344, 122880, 253952, 516096, 1048575, 0, 0, 4194304, 14680064, 31457280, 65011712, 132120576, 268435455, 536870911] (.pure 0 (.pure 1 (.pure 2 (.pure 3 (.pure 4 (.pure 5 (.pure 6 (.pure 7 (.pure 8 (.pure 9 (.pure 10 (.pure 11 (.pure 12 (.pure 13 (.pure 14 (.pure 15 (.pure 16 (.pure 17 (.pure 18 (.pure 19 (.pure 20 (.pure 21 (.pure 22 (.pure 23 (.pure 24 (.pure 25 (.pure 26 (.pure 27 (.pure 28 (.pure 29 .done)))))))))))))))))))))))))))))) mixed (by kernel_rfl) ?_
    refine WT.pure (v := v0) rfl (PO.move (hρ 0)) rfl ?_
    refine WT.pure (v := (.int .i64 (IntKind.i64.wrap ((a0.length : Int) - (4 : Int))))) rfl (PO.move rfl) rfl ?_
    obtain ⟨hg3, h⟩ := grd_i h
    obtain ⟨p4, cs5, hat6, hrc7, hhas8⟩ := h0.at hg3.1 hg3.2 (by decide)
    obtain rfl := hrc7
    refine WT.pure (v := (.pointer (some p4))) rfl (PO.indexAddr (n := a0.length) Try.underlying22 sz5 rfl rfl hg3.1 hg3.2 hat6) rfl ?_
    refine WT.pure (v := (.int .u8 (rd a0 (IntKind.i64.wrap ((a0.length : Int) - (4 : Int)))))) rfl (PO.loadM pl5 rfl (IM.has0 hhas8)) rfl ?_
    refine WT.pure (v := (.int .u32 (IntKind.u32.wrap (rd a0 (IntKind.i64.wrap ((a0.length : Int) - (4 : Int))))))) rfl (PO.conv us5 Try.underlying24 rfl) rfl ?_
    refine WT.pure (v := v0) rfl (PO.move (hρ 0)) rfl ?_
    refine WT.pure (v := (.int .i64 (IntKind.i64.wrap ((a0.length : Int) - (4 : Int))))) rfl (PO.move rfl) rfl ?_
    refine WT.pure (v := (.int .i64 (IntKind.i64.wrap ((IntKind.i64.wrap ((a0.length : Int) - (4 : Int))) + (1 : Int))))) rfl (PO.add rfl rfl) rfl ?_
    obtain ⟨hg10, h⟩ := grd_i h
    obtain ⟨p11, cs12, hat13, hrc14, hhas15⟩ := h0.at hg10.1 hg10.2 (by decide)
    obtain rfl := hrc14
    refine WT.pure (v := (.pointer (some p11))) rfl (PO.indexAddr (n := a0.length) Try.underlying22 sz5 rfl rfl hg10.1 hg10.2 hat13) rfl ?_
    refine WT.pure (v := (.int .u8 (rd a0 (IntKind.i64.wrap ((IntKind.i64.wrap ((a0.length : Int) - (4 : Int))) + (1 : Int)))))) rfl (PO.loadM pl5 rfl (IM.has0 hhas15)) rfl ?_
    refine WT.pure (v := (.int .u32 (IntKind.u32.wrap (rd a0 (IntKind.i64.wrap ((IntKind.i64.wrap ((a0.length : Int) - (4 : Int))) + (1 : Int))))))) rfl (PO.conv us5 Try.underlying24 rfl) rfl ?_
    refine WT.pure (v := (.int .u32 (shlI .u32 (IntKind.u32.wrap (rd a0 (IntKind.i64.wrap ((IntKind.i64.wrap ((a0.length : Int) - (4 : Int))) + (1 : Int))))) (8 : Int)))) rfl (PO.shl rfl rfl (by decide)) rfl ?_
    refine WT.pure (v := (.int .u32 (orI .u32 (IntKind.u32.wrap (rd a0 (IntKind.i64.wrap ((a0.length : Int) - (4 : Int))))) (shlI .u32 (IntKind.u32.wrap (rd a0 (IntKind.i64.wrap ((IntKind.i64.wrap ((a0.length : Int) - (4 : Int))) + (1 : Int))))) (8 : Int))))) rfl (PO.or rfl rfl) rfl ?_
    refine WT.pure (v := v0) rfl (PO.move (hρ 0)) rfl ?_
    refine WT.pure (v := (.int .i64 (IntKind.i64.wrap ((a0.length : Int) - (4 : Int))))) rfl (PO.move rfl) rfl ?_
    refine WT.pure (v := (.int .i64 (IntKind.i64.wrap ((IntKind.i64.wrap ((a0.length : Int) - (4 : Int))) + (2 : Int))))) rfl (PO.add rfl rfl) rfl ?_
    obtain ⟨hg17, h⟩ := grd_i h
    obtain ⟨p18, cs19, hat20, hrc21, hhas22⟩ := h0.at hg17.1 hg17.2 (by decide)
    obtain rfl := hrc21
    refine WT.pure (v := (.pointer (some p18))) rfl (PO.indexAddr (n := a0.length) Try.underlying22 sz5 rfl rfl hg17.1 hg17.2 hat20) rfl ?_
    refine WT.pure (v := (.int .u8 (rd a0 (IntKind.i64.wrap ((IntKind.i64.wrap ((a0.length : Int) - (4 : Int))) + (2 : Int)))))) rfl (PO.loadM pl5 rfl (IM.has0 hhas22)) rfl ?_
    refine WT.pure (v := (.int .u32 (IntKind.u32.wrap (rd a0 (IntKind.i64.wrap ((IntKind.i64.wrap ((a0.length : Int) - (4 : Int))) + (2 : Int))))))) rfl (PO.conv us5 Try.underlying24 rfl) rfl ?_
    refine WT.pure (v := (.int .u32 (shlI .u32 (IntKind.u32.wrap (rd a0 (IntKind.i64.wrap ((IntKind.i64.wrap ((a0.length : Int) - (4 : Int))) + (2 : Int))))) (16 : Int)))) rfl (PO.shl rfl rfl (by decide)) rfl ?_
    refine WT.pure (v := (.int .u32 (orI .u32 (orI .u32 (IntKind.u32.wrap (rd a0 (IntKind.i64.wrap ((a0.length : Int) - (4 : Int))))) (shlI .u32 (IntKind.u32.wrap (rd a0 (IntKind.i64.wrap ((IntKind.i64.wrap ((a0.length : Int) - (4 : Int))) + (1 : Int))))) (8 : Int))) (shlI .u32 (IntKind.u32.wrap (rd a0 (IntKind.i64.wrap ((IntKind.i64.wrap ((a0.length : Int) - (4 : Int))) + (2 : Int))))) (16 : Int))))) rfl (PO.or rfl rfl) rfl ?_
    refine WT.pure (v := v0) rfl (PO.move (hρ 0)) rfl ?_
    refine WT.pure (v := (.int .i64 (IntKind.i64.wrap ((a0.length : Int) - (4 : Int))))) rfl (PO.move rfl) rfl ?_
    refine WT.pure (v := (.int .i64 (IntKind.i64.wrap ((IntKind.i64.wrap ((a0.length : Int) - (4 : Int))) + (3 : Int))))) rfl (PO.add rfl rfl) rfl ?_
    obtain ⟨hg24, h⟩ := grd_i h
    obtain ⟨p25, cs26, hat27, hrc28, hhas29⟩ := h0.at hg24.1 hg24.2 (by decide)
    obtain rfl := hrc28
    refine WT.pure (v := (.pointer (some p25))) rfl (PO.indexAddr (n := a0.length) Try.underlying22 sz5 rfl rfl hg24.1 hg24.2 hat27) rfl ?_
    refine WT.pure (v := (.int .u8 (rd a0 (IntKind.i64.wrap ((IntKind.i64.wrap ((a0.length : Int) - (4 : Int))) + (3 : Int)))))) rfl (PO.loadM pl5 rfl (IM.has0 hhas29)) rfl ?_
    refine WT.pure (v := (.int .u32 (IntKind.u32.wrap (rd a0 (IntKind.i64.wrap ((IntKind.i64.wrap ((a0.length : Int) - (4 : Int))) + (3 : Int))))))) rfl (PO.conv us5 Try.underlying24 rfl) rfl ?_
    refine WT.pure (v := (.int .u32 (shlI .u32 (IntKind.u32.wrap (rd a0 (IntKind.i64.wrap ((IntKind.i64.wrap ((a0.length : Int) - (4 : Int))) + (3 : Int))))) (24 : Int)))) rfl (PO.shl rfl rfl (by decide)) rfl ?_
    refine WT.pure (v := (.int .u32 (orI .u32 (orI .u32 (orI .u32 (IntKind.u32.wrap (rd a0 (IntKind.i64.wrap ((a0.length : Int) - (4 : Int))))) (shlI .u32 (IntKind.u32.wrap (rd a0 (IntKind.i64.wrap ((IntKind.i64.wrap ((a0.length : Int) - (4 : Int))) + (1 : Int))))) (8 : Int))) (shlI .u32 (IntKind.u32.wrap (rd a0 (IntKind.i64.wrap ((IntKind.i64.wrap ((a0.length : Int) - (4 : Int))) + (2 : Int))))) (16 : Int))) (shlI .u32 (IntKind.u32.wrap (rd a0 (IntKind.i64.wrap ((IntKind.i64.wrap ((a0.length : Int) - (4 : Int))) + (3 : Int))))) (24 : Int))))) rfl (PO.or rfl rfl) rfl ?_
    refine WT.pure (v := (.int .u32 (orI .u32 (orI .u32 (orI .u32 (IntKind.u32.wrap (rd a0 (IntKind.i64.wrap ((a0.length : Int) - (4 : Int))))) (shlI .u32 (IntKind.u32.wrap (rd a0 (IntKind.i64.wrap ((IntKind.i64.wrap ((a0.length : Int) - (4 : Int))) + (1 : Int))))) (8 : Int))) (shlI .u32 (IntKind.u32.wrap (rd a0 (IntKind.i64.wrap ((IntKind.i64.wrap ((a0.length : Int) - (4 : Int))) + (2 : Int))))) (16 : Int))) (shlI .u32 (IntKind.u32.wrap (rd a0 (IntKind.i64.wrap ((IntKind.i64.wrap ((a0.length : Int) - (4 : Int))) + (3 : Int))))) (24 : Int))))) rfl (PO.assign rfl) rfl ?_
    refine WT.fin ?_
    refine WQ.thenC ?_
    refine WC.seq ?_
    refine WC.seq ?_
    refine WC.region ?_
    refine WL.pure (v := v0) (PO.move (hρ 0)) rfl ?_
    refine WL.pure (v := (.int .i64 (IntKind.i64.wrap ((a0.length : Int) - (4 : Int))))) (PO.move rfl) rfl ?_
    obtain ⟨hg31, h⟩ := grd_i h
    have h32 := h0.sub hg31.1 hg31.2.1 hg31.2.2
    refine WL.pure (v := (slV v0 1 ((0 : Int)).toNat (IntKind.i64.wrap ((a0.length : Int) - (4 : Int))).toNat)) (PO.slice (n := a0.length) (l := ((0 : Int)).toNat) (h := (IntKind.i64.wrap ((a0.length : Int) - (4 : Int))).toNat) Try.underlying22 sz5 rfl h0.len h0.cap (bound0 rfl) ⟨_, _, rfl, (Int.le_trans hg31.1 hg31.2.1), rfl⟩ (Int.toNat_le_toNat hg31.2.1) (toNat_le_len hg31.2.2)) rfl ?_
    obtain ⟨r33, hr34, h⟩ := bnd h
    refine WL.eff (EO.call0 co12 (args1 (show ev _ _ = (slV v0 1 ((0 : Int)).toNat (IntKind.i64.wrap ((a0.length : Int) - (4 : Int))).toNat) from rfl)) (f_crc_Sum_ok (sub a0 (0 : Int) (IntKind.i64.wrap ((a0.length : Int) - (4 : Int)))) _ _ h32 r33 hr34)) rfl ?_
    rintro _ M35 _ hle36 ⟨_, ⟨rfl, rfl⟩, rfl⟩
    have h0 := h0.mono hle36
    have h32 := h32.mono hle36
    refine WL.a0 ?_
    refine WL.pure (v := (.int .u32 (orI .u32 (orI .u32 (orI .u32 (IntKind.u32.wrap (rd a0 (IntKind.i64.wrap ((a0.length : Int) - (4 : Int))))) (shlI .u32 (IntKind.u32.wrap (rd a0 (IntKind.i64.wrap ((IntKind.i64.wrap ((a0.length : Int) - (4 : Int))) + (1 : Int))))) (8 : Int))) (shlI .u32 (IntKind.u32.wrap (rd a0 (IntKind.i64.wrap ((IntKind.i64.wrap ((a0.length : Int) - (4 : Int))) + (2 : Int))))) (16 : Int))) (shlI .u32 (IntKind.u32.wrap (rd a0 (IntKind.i64.wrap ((IntKind.i64.wrap ((a0.length : Int) - (4 : Int))) + (3 : Int))))) (24 : Int))))) (PO.move rfl) rfl ?_
    refine WL.pure (v := (.bool (decide (r33 ≠ (orI .u32 (orI .u32 (orI .u32 (IntKind.u32.wrap (rd a0 (IntKind.i64.wrap ((a0.length : Int) - (4 : Int))))) (shlI .u32 (IntKind.u32.wrap (rd a0 (IntKind.i64.wrap ((IntKind.i64.wrap ((a0.length : Int) - (4 : Int))) + (1 : Int))))) (8 : Int))) (shlI .u32 (IntKind.u32.wrap (rd a0 (IntKind.i64.wrap ((IntKind.i64.wrap ((a0.length : Int) - (4 : Int))) + (2 : Int))))) (16 : Int))) (shlI .u32 (IntKind.u32.wrap (rd a0 (IntKind.i64.wrap ((IntKind.i64.wrap ((a0.length : Int) - (4 : Int))) + (3 : Int))))) (24 : Int))))))) (PO.neq rfl rfl) rfl ?_
    refine WL.nil ?_
    refine WQ.thenC ?_
    refine WC.cond (b := decide (r33 ≠ (orI .u32 (orI .u32 (orI .u32 (IntKind.u32.wrap (rd a0 (IntKind.i64.wrap ((a0.length : Int) - (4 : Int))))) (shlI .u32 (IntKind.u32.wrap (rd a0 (IntKind.i64.wrap ((IntKind.i64.wrap ((a0.length : Int) - (4 : Int))) + (1 : Int))))) (8 : Int))) (shlI .u32 (IntKind.u32.wrap (rd a0 (IntKind.i64.wrap ((IntKind.i64.wrap ((a0.length : Int) - (4 : Int))) + (2 : Int))))) (16 : Int))) (shlI .u32 (IntKind.u32.wrap (rd a0 (IntKind.i64.wrap ((IntKind.i64.wrap ((a0.length : Int) - (4 : Int))) + (3 : Int))))) (24 : Int))))) rfl (fun hb38 => ?_) (fun hb38 => ?_)
    · have h := ite_t hb38 h
      refine WC.seq ?_
      refine WC.region ?_
      refine WL.pure (v := (.slice none 0 0)) (PO.assign rfl) rfl ?_
      refine WL.pure (v := (.bool false)) (PO.assign rfl) rfl ?_
      refine WL.nil ?_
      refine WQ.thenC ?_
      refine WC.ret ?_
      refine WQ.thenR ?_
      refine WQ.e0 ?_
      exact WQ.returnsF h [[]] rfl (results2 rfl rfl rfl) hle36 ⟨(.slice none 0 0), [], rfl, rfl, (OwnS.nil _ _)⟩
    · have h := ite_f hb38 h
      refine WC.skip ?_
      refine WQ.thenC ?_
      refine WC.seq ?_
      refine WC.region ?_
      refine WL.pure (v := (.int .i64 (IntKind.i64.wrap ((a0.length : Int) - (4 : Int))))) (PO.move rfl) rfl ?_
      obtain ⟨hg43, h⟩ := grd_i h
      refine WL.eff (EO.makeSlice (dd := (Kd.int .u8)) Try.underlying22 in5 rfl rfl rfl rfl rfl hg43.1 (by decide) (makeB rfl hg43.1 hg43.2)) rfl ?_
      rintro v42 _ _ - ⟨rfl, c40, rfl, h41⟩
      refine WL.pure (v := v42) (PO.assign rfl) rfl ?_
      refine WL.nil ?_
      refine WQ.thenC ?_
      refine WC.seq ?_
      refine WC.region ?_
      refine WL.pure (v := v42) (PO.move rfl) rfl ?_
      refine WL.pure (v := v0) (PO.move (hρ 0)) rfl ?_
      refine WL.eff (EO.copy (dd := (Kd.int .u8)) (xs := List.replicate (IntKind.i64.wrap ((a0.length : Int) - (4 : Int))).toNat (0 : Int)) (ys := a0) Try.underlying22 sz5 rfl rfl h41 (h0.src _)) rfl ?_
      rintro _ _ _ - ⟨rfl, rfl, c44, rfl, h45⟩
      refine WL.nil ?_
      refine WQ.thenC ?_
      refine WC.seq ?_
      refine WC.region ?_
      refine WL.pure (v := v42) (PO.move rfl) rfl ?_
      refine WL.pure (v := v42) (PO.assign rfl) rfl ?_
      refine WL.pure (v := (.bool true)) (PO.assign rfl) rfl ?_
      refine WL.nil ?_
      refine WQ.thenC ?_
      refine WC.ret ?_
      exact WQ.returnsF h [c44] rfl (results2 rfl rfl rfl) hle36 ⟨v42, c44, rfl, rfl, h45⟩

noncomputable def f_law03_works : Option Bool :=
  ((f_crc_Put [(49 : Int), (50 : Int), (51 : Int), (52 : Int), (53 : Int), (54 : Int), (55 : Int), (56 : Int), (57 : Int)]).bind fun (r6 : (List Int)) => ((f_crc_Open r6).bind fun (r14, r15) => ((f_crc_Open [(1 : Int), (2 : Int), (3 : Int)]).bind fun (r27, r28) => ((((f_crc_Sum [(49 : Int), (50 : Int), (51 : Int), (52 : Int), (53 : Int), (54 : Int), (55 : Int), (56 : Int), (57 : Int)]).bind fun (r44 : Int) => (if (decide (r44 = (3808858755 : Int))) = true then ((f_crc_Sum []).bind fun (r53 : Int) => (if (decide (r53 = (0 : Int))) = true then (if r15 = true then (if (decide ((r14.length : Int) = (9 : Int))) = true then (some (!r28)) else (some false)) else (some false)) else (some false))) else (some false))) : Option Bool).bind fun (x37 : Bool) => (some x37)))))
def f_law03_works_post : Bool → Value → IM → HL → Prop :=
  fun (r0 : Bool) (v : Value) (M' : IM) (H' : HL) => (.bool r0) = v ∧ H' = []
set_option maxHeartbeats 1000000 in
set_option maxRecDepth 100000 in
theorem f_law03_works_ok (M : IM) (res : Bool) (h : f_law03_works = some res) :
    Tri Try.prog 11 #[] M [] (f_law03_works_post res) := by
  unfold f_law03_works at h
  refine Tri.enter (fn := Try.f11) Try.func11 rfl (Nat.le_of_ble_eq_true rfl) ?_
  intro F ρ hρ
  refine WC.seq ?_
  refine WC.region ?_
  refine WL.pure (v := (.bool false)) (PO.assign rfl) rfl ?_
  refine WL.nil ?_
  refine WQ.thenC ?_
  refine WC.seq ?_
  refine WC.region ?_
  refine WL.eff (EO.buildSliceL (cl := [(.int .u8 (49 : Int)), (.int .u8 (50 : Int)), (.int .u8 (51 : Int)), (.int .u8 (52 : Int)), (.int .u8 (53 : Int)), (.int .u8 (54 : Int)), (.int .u8 (55 : Int)), (.int .u8 (56 : Int)), (.int .u8 (57 : Int))]) Try.underlying22 iz5 rfl (Parts.cons (congrArg Value.cells (show ev _ _ = (.int .u8 (49 : Int)) from rfl)) (Parts.cons (congrArg Value.cells (show ev _ _ = (.int .u8 (50 : Int)) from rfl)) (Parts.cons (congrArg Value.cells (show ev _ _ = (.int .u8 (51 : Int)) from rfl)) (Parts.cons (congrArg Value.cells (show ev _ _ = (.int .u8 (52 : Int)) from rfl)) (Parts.cons (congrArg Value.cells (show ev _ _ = (.int .u8 (53 : Int)) from rfl)) (Parts.cons (congrArg Value.cells (show ev _ _ = (.int .u8 (54 : Int)) from rfl)) (Parts.cons (congrArg Value.cells (show ev _ _ = (.int .u8 (55 : Int)) from rfl)) (Parts.cons (congrArg Value.cells (show ev _ _ = (.int .u8 (56 : Int)) from rfl)) (Parts.cons (congrArg Value.cells (show ev _ _ = (.int .u8 (57 : Int)) from rfl)) Parts.nil))))))))) rfl) rfl ?_
  rintro _ _ _ - ⟨rfl, g1, rfl, rfl⟩
  have h3 : OwnS (Kd.int .u8) M (.slice (some ⟨g1, 0, none⟩) 9 9) [(49 : Int), (50 : Int), (51 : Int), (52 : Int), (53 : Int), (54 : Int), (55 : Int), (56 : Int), (57 : Int)] [(g1, .cells #[(.int .u8 (49 : Int)), (.int .u8 (50 : Int)), (.int .u8 (51 : Int)), (.int .u8 (52 : Int)), (.int .u8 (53 : Int)), (.int .u8 (54 : Int)), (.int .u8 (55 : Int)), (.int .u8 (56 : Int)), (.int .u8 (57 : Int))] 5 (0, 0))] := OwnS.rows (css := [[(.int .u8 (49 : Int))], [(.int .u8 (50 : Int))], [(.int .u8 (51 : Int))], [(.int .u8 (52 : Int))], [(.int .u8 (53 : Int))], [(.int .u8 (54 : Int))], [(.int .u8 (55 : Int))], [(.int .u8 (56 : Int))], [(.int .u8 (57 : Int))]]) (Rows.cons rfl (Rows.cons rfl (Rows.cons rfl (Rows.cons rfl (Rows.cons rfl (Rows.cons rfl (Rows.cons rfl (Rows.cons rfl (Rows.cons rfl Rows.nil))))))))) rfl rfl
  refine WL.eff (EO.convB Try.underlying22 Try.underlying5 rfl ⟨_, _, _, rfl⟩ h3) rfl ?_
  rintro _ _ _ - ⟨rfl, rfl, c4, rfl, h5⟩
  obtain ⟨r6, hr7, h⟩ := bnd h
  refine WL.eff (EO.call1 co17 (args1 (show ev _ _ = (.slice (some ⟨g1, 0, none⟩) 9 9) from rfl)) (Tri.lend fun w0_ H0_ hs0_ => (f_crc_Put_ok [(49 : Int), (50 : Int), (51 : Int), (52 : Int), (53 : Int), (54 : Int), (55 : Int), (56 : Int), (57 : Int)] _ _ (h5.rs hs0_) r6 hr7))) rfl ?_
  rintro _ _ _ hle9 ⟨_, ⟨Ml11, Hl12, hll13, rfl, rfl, ⟨vq10, cq10, rfl, rfl, hq10⟩⟩, rfl⟩
  have h5 := h5.mono hle9
  have hq10 : OwnS (Kd.int .u8) (Ml11.minus c4) vq10 r6 cq10 := hq10.any (Kd.int_flat _)
  refine WL.a2 ?_
  obtain ⟨⟨r14, r15⟩, hr16, h⟩ := bnd h
  refine WL.f1 ?_
  refine WL.eff (EO.call1 co15 (args1 (show ev _ _ = vq10 from rfl)) (Tri.lend fun w0_ H0_ hs0_ => (f_crc_Open_ok r6 _ _ (hq10.rs hs0_) (r14, r15) hr16))) rfl ?_
  rintro _ _ _ hle18 ⟨_, ⟨Ml21, Hl22, hll23, rfl, rfl, ⟨vq19, cq19, rfl, rfl, hq19⟩⟩, rfl⟩
  have h5 := h5.mono hle18
  have hq10 := hq10.mono hle18
  have hq19 : OwnS (Kd.int .u8) (Ml21.minus cq10) vq19 r14 cq19 := hq19.any (Kd.int_flat _)
  refine WL.a2 ?_
  refine WL.pure (v := (.tuple #[vq19, (.bool r15)])) (PO.move rfl) rfl ?_
  refine WL.pure (v := vq19) (PO.extract rfl rfl) rfl ?_
  refine WL.pure (v := (.bool r15)) (PO.extract rfl rfl) rfl ?_
  refine WL.pure (v := vq19) (PO.assign rfl) rfl ?_
  refine WL.pure (v := (.bool r15)) (PO.assign rfl) rfl ?_
  refine WL.nil ?_
  refine WQ.thenC ?_
  refine WC.seq ?_
  refine WC.region ?_
  refine WL.eff (EO.buildSliceL (cl := [(.int .u8 (1 : Int)), (.int .u8 (2 : Int)), (.int .u8 (3 : Int))]) Try.underlying22 iz5 rfl (Parts.cons (congrArg Value.cells (show ev _ _ = (.int .u8 (1 : Int)) from rfl)) (Parts.cons (congrArg Value.cells (show ev _ _ = (.int .u8 (2 : Int)) from rfl)) (Parts.cons (congrArg Value.cells (show ev _ _ = (.int .u8 (3 : Int)) from rfl)) Parts.nil))) rfl) rfl ?_
  rintro _ _ _ - ⟨rfl, g24, rfl, rfl⟩
  have h26 : OwnS (Kd.int .u8) (Ml21.minus cq10) (.slice (some ⟨g24, 0, none⟩) 3 3) [(1 : Int), (2 : Int), (3 : Int)] [(g24, .cells #[(.int .u8 (1 : Int)), (.int .u8 (2 : Int)), (.int .u8 (3 : Int))] 5 (0, 0))] := OwnS.rows (css := [[(.int .u8 (1 : Int))], [(.int .u8 (2 : Int))], [(.int .u8 (3 : Int))]]) (Rows.cons rfl (Rows.cons rfl (Rows.cons rfl Rows.nil))) rfl rfl
  obtain ⟨⟨r27, r28⟩, hr29, h⟩ := bnd h
  refine WL.eff (EO.call1 co15 (args1 (show ev _ _ = (.slice (some ⟨g24, 0, none⟩) 3 3) from rfl)) (Tri.lend fun w0_ H0_ hs0_ => (f_crc_Open_ok [(1 : Int), (2 : Int), (3 : Int)] _ _ (h26.rs hs0_) (r27, r28) hr29))) rfl ?_
  rintro _ _ _ hle31 ⟨_, ⟨Ml34, Hl35, hll36, rfl, rfl, ⟨vq32, cq32, rfl, rfl, hq32⟩⟩, rfl⟩
  have hq19 := hq19.mono hle31
  have h26 := h26.mono hle31
  have hq32 : OwnS (Kd.int .u8) (Ml34.minus [(g24, .cells #[(.int .u8 (1 : Int)), (.int .u8 (2 : Int)), (.int .u8 (3 : Int))] 5 (0, 0))]) vq32 r27 cq32 := hq32.any (Kd.int_flat _)
  refine WL.a2 ?_
  refine WL.pure (v := (.tuple #[vq32, (.bool r28)])) (PO.move rfl) rfl ?_
  refine WL.pure (v := vq32) (PO.extract rfl rfl) rfl ?_
  refine WL.pure (v := (.bool r28)) (PO.extract rfl rfl) rfl ?_
  refine WL.pure (v := vq32) (PO.assign rfl) rfl ?_
  refine WL.pure (v := (.bool r28)) (PO.assign rfl) rfl ?_
  refine WL.nil ?_
  refine WQ.thenC ?_
  obtain ⟨x37, hj38, h⟩ := bnd h
  refine WC.joinF (fun (x37 : Bool) (ρ' : Nat → Value) (M' : IM) (H' : HL) => (Ml34.minus [(g24, .cells #[(.int .u8 (1 : Int)), (.int .u8 (2 : Int)), (.int .u8 (3 : Int))] 5 (0, 0))]).le M' ∧ F = H' ∧ ρ' 0 = (.bool x37)) x37 ?_ ?_
  · have h338 := h
    have h := hj38
    refine WC.region ?_
    refine WL.eff (EO.buildSliceL (cl := [(.int .u8 (49 : Int)), (.int .u8 (50 : Int)), (.int .u8 (51 : Int)), (.int .u8 (52 : Int)), (.int .u8 (53 : Int)), (.int .u8 (54 : Int)), (.int .u8 (55 : Int)), (.int .u8 (56 : Int)), (.int .u8 (57 : Int))]) Try.underlying22 iz5 rfl (Parts.cons (congrArg Value.cells (show ev _ _ = (.int .u8 (49 : Int)) from rfl)) (Parts.cons (congrArg Value.cells (show ev _ _ = (.int .u8 (50 : Int)) from rfl)) (Parts.cons (congrArg Value.cells (show ev _ _ = (.int .u8 (51 : Int)) from rfl)) (Parts.cons (congrArg Value.cells (show ev _ _ = (.int .u8 (52 : Int)) from rfl)) (Parts.cons (congrArg Value.cells (show ev _ _ = (.int .u8 (53 : Int)) from rfl)) (Parts.cons (congrArg Value.cells (show ev _ _ = (.int .u8 (54 : Int)) from rfl)) (Parts.cons (congrArg Value.cells (show ev _ _ = (.int .u8 (55 : Int)) from rfl)) (Parts.cons (congrArg Value.cells (show ev _ _ = (.int .u8 (56 : Int)) from rfl)) (Parts.cons (congrArg Value.cells (show ev _ _ = (.int .u8 (57 : Int)) from rfl)) Parts.nil))))))))) rfl) rfl ?_
    rintro _ _ _ - ⟨rfl, g39, rfl, rfl⟩
    have h41 : OwnS (Kd.int .u8) (Ml34.minus [(g24, .cells #[(.int .u8 (1 : Int)), (.int .u8 (2 : Int)), (.int .u8 (3 : Int))] 5 (0, 0))]) (.slice (some ⟨g39, 0, none⟩) 9 9) [(49 : Int), (50 : Int), (51 : Int), (52 : Int), (53 : Int), (54 : Int), (55 : Int), (56 : Int), (57 : Int)] [(g39, .cells #[(.int .u8 (49 : Int)), (.int .u8 (50 : Int)), (.int .u8 (51 : Int)), (.int .u8 (52 : Int)), (.int .u8 (53 : Int)), (.int .u8 (54 : Int)), (.int .u8 (55 : Int)), (.int .u8 (56 : Int)), (.int .u8 (57 : Int))] 5 (0, 0))] := OwnS.rows (css := [[(.int .u8 (49 : Int))], [(.int .u8 (50 : Int))], [(.int .u8 (51 : Int))], [(.int .u8 (52 : Int))], [(.int .u8 (53 : Int))], [(.int .u8 (54 : Int))], [(.int .u8 (55 : Int))], [(.int .u8 (56 : Int))], [(.int .u8 (57 : Int))]]) (Rows.cons rfl (Rows.cons rfl (Rows.cons rfl (Rows.cons rfl (Rows.cons rfl (Rows.cons rfl (Rows.cons rfl (Rows.cons rfl (Rows.cons rfl Rows.nil))))))))) rfl rfl
    refine WL.eff (EO.convB Try.underlying22 Try.underlying5 rfl ⟨_, _, _, rfl⟩ h41) rfl ?_
    rintro _ _ _ - ⟨rfl, rfl, c42, rfl, h43⟩
    obtain ⟨r44, hr45, h⟩ := bnd h
    refine WL.eff (EO.call1 co12 (args1 (show ev _ _ = (.slice (some ⟨g39, 0, none⟩) 9 9) from rfl)) (Tri.lend fun w0_ H0_ hs0_ => (f_crc_Sum_ok [(49 : Int), (50 : Int), (51 : Int), (52 : Int), (53 : Int), (54 : Int), (55 : Int), (56 : Int), (57 : Int)] _ _ (h43.rs hs0_) r44 hr45))) rfl ?_
    rintro _ _ _ hle47 ⟨_, ⟨Ml49, Hl50, hll51, rfl, rfl, ⟨rfl, rfl⟩⟩, rfl⟩
    have hq19 := hq19.mono hle47
    have h43 := h43.mono hle47
    refine WL.a1 ?_
    refine WL.pure (v := (.bool (decide (r44 = (3808858755 : Int))))) (PO.eql rfl rfl) rfl ?_
    refine WL.pure (v := (.bool (decide (r44 = (3808858755 : Int))))) (PO.move rfl) rfl ?_
    rcases Bool.eq_false_or_eq_true (decide (r44 = (3808858755 : Int))) with hb52 | hb52
    · have h := ite_t hb52 h
      refine WL.on 21 rfl rfl hb52 ?_
      obtain ⟨r53, hr54, h⟩ := bnd h
      refine WL.eff (EO.call0 co12 (args1 (show ev _ _ = (.slice none 0 0) from rfl)) (f_crc_Sum_ok [] _ _ (RS.nil _ _) r53 hr54)) rfl ?_
      rintro _ M55 _ hle56 ⟨_, ⟨rfl, rfl⟩, rfl⟩
      have hq19 := hq19.mono hle56
      have h43 := h43.mono hle56
      refine WL.a0 ?_
      refine WL.on 21 rfl rfl hb52 ?_
      refine WL.pure (v := (.bool (decide (r53 = (0 : Int))))) (PO.eql rfl rfl) rfl ?_
      refine WL.pure (v := (.bool (decide (r53 = (0 : Int))))) (PO.pickT rfl hb52 rfl) rfl ?_
      refine WL.pure (v := (.bool (decide (r53 = (0 : Int))))) (PO.move rfl) rfl ?_
      rcases Bool.eq_false_or_eq_true (decide (r53 = (0 : Int))) with hb58 | hb58
      · have h := ite_t hb58 h
        refine WL.on 25 rfl rfl hb58 ?_
        refine WL.pure (v := (.bool r15)) (PO.move rfl) rfl ?_
        refine WL.pure (v := (.bool r15)) (PO.pickT rfl hb58 rfl) rfl ?_
        refine WL.pure (v := (.bool r15)) (PO.move rfl) rfl ?_
        rcases Bool.eq_false_or_eq_true (r15) with hb59 | hb59
        · have h := ite_t hb59 h
          refine WL.on 28 rfl rfl hb59 ?_
          refine WL.pure (v := vq19) (PO.move rfl) rfl ?_
          refine WL.on 28 rfl rfl hb59 ?_
          refine WL.pure (v := (.int .i64 (r14.length : Int))) (PO.lenS Try.underlying22 rfl hq19.len) rfl ?_
          refine WL.on 28 rfl rfl hb59 ?_
          refine WL.pure (v := (.bool (decide ((r14.length : Int) = (9 : Int))))) (PO.eql rfl rfl) rfl ?_
          refine WL.pure (v := (.bool (decide ((r14.length : Int) = (9 : Int))))) (PO.pickT rfl hb59 rfl) rfl ?_
          refine WL.pure (v := (.bool (decide ((r14.length : Int) = (9 : Int))))) (PO.move rfl) rfl ?_
          rcases Bool.eq_false_or_eq_true (decide ((r14.length : Int) = (9 : Int))) with hb60 | hb60
          · have h := ite_t hb60 h
            refine WL.on 33 rfl rfl hb60 ?_
            refine WL.pure (v := (.bool r28)) (PO.move rfl) rfl ?_
            refine WL.on 33 rfl rfl hb60 ?_
            refine WL.pure (v := (.bool (!r28))) (PO.not rfl) rfl ?_
            refine WL.pure (v := (.bool (!r28))) (PO.pickT rfl hb60 rfl) rfl ?_
            refine WL.pure (v := (.bool (!r28))) (PO.assign rfl) rfl ?_
            refine WL.nil ?_
            refine WQ.drop ?_
            refine WQ.drop ?_
            refine WQ.drop ?_
            refine WQ.drop ?_
            refine WQ.drop ?_
            refine WQ.drop ?_
            obtain rfl := Option.some.inj h
            refine WQ.thenJ ?_
            exact ⟨(hle47.trans hle56), rfl, rfl⟩
          · have h := ite_f hb60 h
            refine WL.off 33 rfl rfl hb60 rfl ?_
            refine WL.off 33 rfl rfl hb60 rfl ?_
            refine WL.pure (v := (.bool false)) (PO.pickF rfl hb60 rfl) rfl ?_
            refine WL.pure (v := (.bool false)) (PO.assign rfl) rfl ?_
            refine WL.nil ?_
            refine WQ.drop ?_
            refine WQ.drop ?_
            refine WQ.drop ?_
            refine WQ.drop ?_
            refine WQ.drop ?_
            refine WQ.drop ?_
            obtain rfl := Option.some.inj h
            refine WQ.thenJ ?_
            exact ⟨(hle47.trans hle56), rfl, rfl⟩
        · have h := ite_f hb59 h
          refine WL.off 28 rfl rfl hb59 rfl ?_
          refine WL.off 28 rfl rfl hb59 rfl ?_
          refine WL.off 28 rfl rfl hb59 rfl ?_
          refine WL.pure (v := (.bool false)) (PO.pickF rfl hb59 rfl) rfl ?_
          refine WL.pure (v := (.bool false)) (PO.move rfl) rfl ?_
          refine WL.off 33 rfl rfl rfl rfl ?_
          refine WL.off 33 rfl rfl rfl rfl ?_
          refine WL.pure (v := (.bool false)) (PO.pickF rfl rfl rfl) rfl ?_
          refine WL.pure (v := (.bool false)) (PO.assign rfl) rfl ?_
          refine WL.nil ?_
          refine WQ.drop ?_
          refine WQ.drop ?_
          refine WQ.drop ?_
          refine WQ.drop ?_
          refine WQ.drop ?_
          refine WQ.drop ?_
          obtain rfl := Option.some.inj h
          refine WQ.thenJ ?_
          exact ⟨(hle47.trans hle56), rfl, rfl⟩
      · have h := ite_f hb58 h
        refine WL.off 25 rfl rfl hb58 rfl ?_
        refine WL.pure (v := (.bool false)) (PO.pickF rfl hb58 rfl) rfl ?_
        refine WL.pure (v := (.bool false)) (PO.move rfl) rfl ?_
        refine WL.off 28 rfl rfl rfl rfl ?_
        refine WL.off 28 rfl rfl rfl rfl ?_
        refine WL.off 28 rfl rfl rfl rfl ?_
        refine WL.pure (v := (.bool false)) (PO.pickF rfl rfl rfl) rfl ?_
        refine WL.pure (v := (.bool false)) (PO.move rfl) rfl ?_
        refine WL.off 33 rfl rfl rfl rfl ?_
        refine WL.off 33 rfl rfl rfl rfl ?_
        refine WL.pure (v := (.bool false)) (PO.pickF rfl rfl rfl) rfl ?_
        refine WL.pure (v := (.bool false)) (PO.assign rfl) rfl ?_
        refine WL.nil ?_
        refine WQ.drop ?_
        refine WQ.drop ?_
        refine WQ.drop ?_
        refine WQ.drop ?_
        refine WQ.drop ?_
        refine WQ.drop ?_
        obtain rfl := Option.some.inj h
        refine WQ.thenJ ?_
        exact ⟨(hle47.trans hle56), rfl, rfl⟩
    · have h := ite_f hb52 h
      refine WL.off 21 rfl rfl hb52 rfl ?_
      refine WL.off 21 rfl rfl hb52 rfl ?_
      refine WL.pure (v := (.bool false)) (PO.pickF rfl hb52 rfl) rfl ?_
      refine WL.pure (v := (.bool false)) (PO.move rfl) rfl ?_
      refine WL.off 25 rfl rfl rfl rfl ?_
      refine WL.pure (v := (.bool false)) (PO.pickF rfl rfl rfl) rfl ?_
      refine WL.pure (v := (.bool false)) (PO.move rfl) rfl ?_
      refine WL.off 28 rfl rfl rfl rfl ?_
      refine WL.off 28 rfl rfl rfl rfl ?_
      refine WL.off 28 rfl rfl rfl rfl ?_
      refine WL.pure (v := (.bool false)) (PO.pickF rfl rfl rfl) rfl ?_
      refine WL.pure (v := (.bool false)) (PO.move rfl) rfl ?_
      refine WL.off 33 rfl rfl rfl rfl ?_
      refine WL.off 33 rfl rfl rfl rfl ?_
      refine WL.pure (v := (.bool false)) (PO.pickF rfl rfl rfl) rfl ?_
      refine WL.pure (v := (.bool false)) (PO.assign rfl) rfl ?_
      refine WL.nil ?_
      refine WQ.drop ?_
      refine WQ.drop ?_
      refine WQ.drop ?_
      refine WQ.drop ?_
      refine WQ.drop ?_
      refine WQ.drop ?_
      obtain rfl := Option.some.inj h
      refine WQ.thenJ ?_
      exact ⟨hle47, rfl, rfl⟩
  · rintro ρ38 M38 H38 ⟨hle38, rfl, hs38_0⟩
    refine WC.ret ?_
    exact WQ.returnsF h [] rfl (results1 rfl hs38_0) (((hle9.trans hle18).trans hle31).trans hle38) ⟨rfl, rfl⟩


end Go.Proofs.Ytmifmgpfjamdkaa.G
