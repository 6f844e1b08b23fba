/- Go functions: what they come to, and that they do. Printed by a program of the session (gen). -/
import Derived.Test.YtkflneabcannnaaGreatDoorBF
import Derived.Test.YtkflneabcannnaaGreatDoorB6
import Derived.Test.YtkflneabcannnaaGreatDoorKConv
import Derived.Test.YtkflneabcannnaaGreatDoorKShar2
import Derived.Test.YtkflneabcannnaaGreatDoorKTight
set_option linter.unusedVariables false
set_option linter.unusedSimpArgs false
set_option maxHeartbeats 8000000
set_option maxRecDepth 100000
namespace Go.Proofs.YtkflneabcannnaaGreatDoor.G
open Go Go.KK

noncomputable def f_wire_Reader_Row_l0 (a0 : T_wire_Reader) (a2 : Int) (r21 : Int) (s_ : ((List Int) × Int × Int × GErr)) : Option (((List Int) × Int × Int × GErr) ⊕ ((List Int) × Int × GErr)) :=
  match s_ with
  | (x33, x34, x35, x36) =>
    (((if (decide (x34 < r21)) = true then (some x36.isNil) else (some false)) : Option Bool).bind fun (x40 : Bool) => (if x40 = true then ((f_wire_Reader_Int (⟨a0.b, x35, x36⟩ : T_wire_Reader) a2).bind fun (r44, r45, r46) => (grd (x33.length + [r44].length ≤ 274877906944) (some (Sum.inl (x33 ++ [r44], IntKind.i64.wrap (x34 + (1 : Int)), r45, r46))))) else (some (Sum.inr (x33, x35, x36)))))
noncomputable def f_wire_Reader_Row (a0 : T_wire_Reader) (a1 : Int) (a2 : Int) : Option ((List Int) × Int × GErr) :=
  ((f_wire_Reader_Int a0 a1).bind fun (r21, r22, r23) => ((((iter (f_wire_Reader_Row_l0 a0 a2 r21) ([], (0 : Int), r22, r23)).bind (fun (x37, x38, x39) => (some (x37, x38, x39)))) : Option ((List Int) × Int × GErr)).bind fun (x28, x29, x30) => (if (!x30.isNil) = true then (some ([], x29, x30)) else (some (x28, x29, x30)))))
def f_wire_Reader_Row_post (a0 : T_wire_Reader) (a1 : Int) (a2 : Int) (v0_0 : Value) (g0 : Nat) : ((List Int) × Int × GErr) → Value → IM → HL → Prop :=
  fun (p_ : ((List Int) × Int × GErr)) (v : Value) (M' : IM) (H' : HL) => match p_ with | (r0, r1, r2) => ∃ vz0 cz0, vz0 = v ∧ H' = [[(g0, .cells #[v0_0, (.int .i64 r1), (GV r2)] 110 (0, 0))], cz0] ∧ OwnS (Kd.int .i64) M' vz0 r0 cz0
theorem f_wire_Reader_Row_ok (a0 : T_wire_Reader) (a1 : Int) (a2 : Int) (M : IM) (v0_0 : Value) (g0 : Nat) (h0_0 : RS (Kd.int .u8) M v0_0 a0.b) (res : ((List Int) × Int × GErr)) (h : f_wire_Reader_Row a0 a1 a2 = some res) :
    Tri Tryz.prog 102 #[(pt g0 0), (Iv a1), (Iv a2)] M [[(g0, .cells #[v0_0, (Iv a0.at_), (GV a0.err)] 110 (0, 0))]] (f_wire_Reader_Row_post a0 a1 a2 v0_0 g0 res) := by
 unfold f_wire_Reader_Row at h
 refine Te Tryz.func102 rfl rfl ?_
 intro F ρ hρ
 refine Sr (Pa Zs rfl rfl (Ns (Pm (pt g0 0) (hρ 0) rfl (Pm (Iv a1) (hρ 1) rfl ?_))))
 obtain ⟨⟨r21, r22, r23⟩, hr24, h⟩ := bnd h
 refine We (Cb co32 (f_wire_Reader_Int_ok a0 a1 _ _ _ h0_0 (r21, r22, r23) hr24) (args2 rfl rfl)) rfl ?_
 rintro _ M25 _ hle26 ⟨_, ⟨rfl, rfl⟩, rfl⟩
 refine WL.a1 (Pa (Iv r21) rfl rfl (Ns (Pa Zs rfl rfl (Nt ?_))))
 obtain ⟨j31, hj31, h⟩ := bnd h
 refine Jf (fun (p_ : ((List Int) × Int × GErr)) ρ' M' H' => match p_ with | (x28, x29, x30) => ∃ vx28 cx28, M25.le M' ∧ [(g0, .cells #[v0_0, (Iv x29), (GV x30)] 110 (0, 0))] :: cx28 :: F = H' ∧ ρ' 0 = (pt g0 0) ∧ ρ' 8 = vx28 ∧ OwnS (Kd.int .i64) M' vx28 x28 cx28) j31 ?_ ?_
 have h331 := h
 have h := hj31
 refine Sr (Pa (Iv 0) rfl rfl (Nt (Bk (WC.e0 (WC.f1 ?_)))))
 obtain ⟨e32, he32, hK32⟩ := bnd h
 clear h
 refine WC.loop he32 (fun (p_ : ((List Int) × Int × Int × GErr)) ρ' M' H' => match p_ with | (x33, x34, x35, x36) => ∃ vx33 cx33, M25.le M' ∧ [(g0, .cells #[v0_0, (Iv x35), (GV x36)] 110 (0, 0))] :: cx33 :: F = H' ∧ ρ' 0 = (pt g0 0) ∧ ρ' 2 = (Iv a2) ∧ ρ' 7 = (Iv r21) ∧ ρ' 8 = vx33 ∧ ρ' 9 = (Iv x34) ∧ OwnS (Kd.int .i64) M' vx33 x33 cx33) ?_ ?_
 exact ⟨Zs, [], lr, rfl, (hρ 0), (hρ 2), rfl, rfl, rfl, (OwnS.nil _ _)⟩
 rintro ⟨x33, x34, x35, x36⟩ o32 ρ32 M32 H32 h ⟨vx33, cx33, hle32, rfl, hs32_0, hs32_2, hs32_7, hs32_8, hs32_9, hx33⟩
 unfold f_wire_Reader_Row_l0 at h
 refine Cs ?_
 obtain ⟨x40, hj41, h⟩ := bnd h
 refine Jf (fun (x40 : Bool) ρ' M' H' => M32.le M' ∧ [(g0, .cells #[v0_0, (Iv x35), (GV x36)] 110 (0, 0))] :: cx33 :: F = H' ∧ ρ' 0 = (pt g0 0) ∧ ρ' 2 = (Iv a2) ∧ ρ' 7 = (Iv r21) ∧ ρ' 8 = vx33 ∧ ρ' 9 = (Iv x34) ∧ ρ' 22 = (Bv x40)) x40 ?_ ?_
 have h341 := h
 have h := hj41
 refine Cg (Pm (Iv x34) hs32_9 rfl (Pm (Iv r21) hs32_7 rfl (Pu (Bv (decide (x34 < r21))) (PO.lss rfl rfl) rfl (Pm (Bv (decide (x34 < r21))) rfl rfl ?_))))
 rcases Bt (decide (x34 < r21)) with hb42 | hb42
 have h := ite_t hb42 h
 refine On 16 rfl rfl hb42 (Pm (pt g0 0) hs32_0 rfl (On 16 rfl rfl hb42 (Pu (pt g0 0) (Nk rfl) rfl (On 16 rfl rfl hb42 (Pu (pt g0 2) (Fa fo110_2 rfl rfl) rfl (On 16 rfl rfl hb42 (Pu (GV x36) (Lb 0 pl31 rfl rfl rfl) rfl (On 16 rfl rfl hb42 (Pu (Bv x36.isNil) (PO.errNil Tryz.underlying31 rfl) rfl (Pu (Bv x36.isNil) (Pt rfl hb42 rfl) rfl (Wz ?_)))))))))))
 obtain rfl := oi h
 exact Tj ⟨lr, rfl, hs32_0, hs32_2, hs32_7, hs32_8, hs32_9, rfl⟩
 have h := ite_f hb42 h
 iterate 5 refine Of 16 rfl rfl hb42 rfl ?_
 refine Pu (Bv false) (Pf rfl hb42 rfl) rfl (Wz ?_)
 obtain rfl := oi h
 exact Tj ⟨lr, rfl, hs32_0, hs32_2, hs32_7, hs32_8, hs32_9, rfl⟩
 rintro ρ41 M41 H41 ⟨hle41, rfl, hs41_0, hs41_2, hs41_7, hs41_8, hs41_9, hs41_22⟩
 refine Cd (b := x40) hs41_22 (fun hb43 => ?_) (fun hb43 => ?_)
 have h := ite_t hb43 h
 refine Ck (Tc (Cs (Bk (Cg (Pm vx33 hs41_8 rfl (Pm (pt g0 0) hs41_0 rfl (Pm (Iv a2) hs41_2 rfl ?_)))))))
 obtain ⟨⟨r44, r45, r46⟩, hr47, h⟩ := bnd h
 have h0_0 := h0_0.mono ((hle26.trans hle32).trans hle41)
 refine We (Cb co32 (f_wire_Reader_Int_ok (⟨a0.b, x35, x36⟩ : T_wire_Reader) a2 _ _ _ h0_0 (r44, r45, r46) hr47) (args2 rfl rfl)) rfl ?_
 rintro _ M48 _ hle49 ⟨_, ⟨rfl, rfl⟩, rfl⟩
 refine WL.a1 (We (EO.buildSliceL (cl := [(Iv r44)]) Tryz.underlying56 iz3 rfl (Pc (Iv r44) rfl rfl Pz) rfl) rfl ?_)
 rintro _ _ _ - ⟨rfl, g51, rfl, rfl⟩
 have h53 : OwnS (Kd.int .i64) M48 (.slice (some ⟨g51, 0, none⟩) 1 1) [r44] [(g51, .cells #[(Iv r44)] 3 (0, 0))] := OwnS.rows (css := [[(Iv r44)]]) (Rows.cons rfl Rows.nil) rfl rfl
 obtain ⟨hg57, h⟩ := grd_i h
 refine Wb ?_
 have hx33 := hx33.mono (hle41.trans hle49)
 refine We (EO.append (dd := (Kd.int .i64)) (xs := x33) (ys := [r44]) Tryz.underlying56 Tryz.underlying56 in3 rfl (appB (by decide) hg57) (by decide) rfl rfl hx33 (h53.src 1 rfl)) rfl ?_
 rintro v56 _ _ - ⟨rfl, c54, rfl, h55⟩
 refine Pa v56 rfl rfl (Wz (Bn (Tc (Cg (Pm (Iv x34) hs41_9 rfl (Pu (Iv (IntKind.i64.wrap (x34 + 1))) (PO.add rfl rfl) rfl (Pa (Iv (IntKind.i64.wrap (x34 + 1))) rfl rfl (Wz (Qa (Dr (Qa ?_)))))))))))
 exact WQ.again (x33 ++ [r44], IntKind.i64.wrap (x34 + 1), r45, r46) (oi h).symm ⟨v56, c54, ((hle32.trans hle41).trans hle49), rfl, hs41_0, hs41_2, hs41_7, rfl, rfl, h55⟩
 have h := ite_f hb43 h
 refine WC.exit (WQ.thenE (WQ.leaveE (x33, x35, x36) (oi h).symm (fun heq32 => ?_)))
 subst heq32
 have h := hK32
 refine WQ.blockH ?_
 obtain rfl := oi h
 refine Tj ?_
 have hx33 := hx33.mono hle41
 exact ⟨vx33, cx33, (hle32.trans hle41), rfl, hs41_0, hs41_8, hx33⟩
 obtain ⟨x28, x29, x30⟩ := j31
 rintro ρ31 M31 H31 ⟨vx28, cx28, hle31, rfl, hs31_0, hs31_8, hx28⟩
 refine Cs (Sr (Pm (pt g0 0) hs31_0 rfl (Pu (pt g0 0) (Nk rfl) rfl (Pu (pt g0 2) (Fa fo110_2 rfl rfl) rfl (Pu (GV x30) (Lb 0 pl31 rfl rfl rfl) rfl (Pu (Bv (!x30.isNil)) (PO.errNotNil Tryz.underlying31 rfl) rfl (Nt (Cd (b := !x30.isNil) rfl (fun hb59 => ?_) (fun hb59 => ?_)))))))))
 have h := ite_t hb59 h
 exact Sr (Pa Zs rfl rfl (Nt (Cr (Tr (WQ.e0 (Qb (Dr (Qa (Rf h [[(g0, .cells #[v0_0, (Iv x29), (GV x30)] 110 (0, 0))], []] rfl (Rs rfl rfl) (hle26.trans hle31) ⟨Zs, [], rfl, rfl, (OwnS.nil _ _)⟩)))))))))
 have h := ite_f hb59 h
 exact Ck (Tc (Sr (Pm vx28 hs31_8 rfl (Pa vx28 rfl rfl (Nt (Cr (Rf h [[(g0, .cells #[v0_0, (Iv x29), (GV x30)] 110 (0, 0))], cx28] rfl (Rs rfl rfl) (hle26.trans hle31) ⟨vx28, cx28, rfl, rfl, hx28⟩)))))))

noncomputable def f_record_Read_3 (a0 : Int) (a1 : Int) (a2q : T_wire_Reader) : Option ((List Int) × Int × GErr) :=
  (if (decide ((andI .i64 a1 a0) = (0 : Int))) = true then (some ([], a2q.at_, a2q.err)) else ((f_wire_Reader_Row a2q (7 : Int) (64 : Int)).bind fun (r23, r24, r25) => (some (r23, r24, r25))))
def f_record_Read_3_post (a0 : Int) (a1 : Int) (a2q : T_wire_Reader) (v2q_0 : Value) (g1 g2 g2q : Nat) : ((List Int) × Int × GErr) → Value → IM → HL → Prop :=
  fun (p_ : ((List Int) × Int × GErr)) (v : Value) (M' : IM) (H' : HL) => match p_ with | (r0, r1, r2) => ∃ vz0 cz0, vz0 = v ∧ H' = [[(g1, .cells #[(.int .i64 a1)] 3 (0, 0))], [(g2q, .cells #[v2q_0, (.int .i64 r1), (GV r2)] 110 (0, 0))], [(g2, .cells #[(.pointer (some ⟨g2q, 0, none⟩))] 69 (0, 0))], cz0] ∧ OwnS (Kd.int .i64) M' vz0 r0 cz0
theorem f_record_Read_3_ok (a0 : Int) (a1 : Int) (a2q : T_wire_Reader) (M : IM) (v2q_0 : Value) (g1 g2 g2q : Nat) (h2q_0 : RS (Kd.int .u8) M v2q_0 a2q.b) (res : ((List Int) × Int × GErr)) (h : f_record_Read_3 a0 a1 a2q = some res) :
    Tri Tryz.prog 101 #[(Iv a0), (pt g1 0), (pt g2 0)] M [[(g1, .cells #[(Iv a1)] 3 (0, 0))], [(g2q, .cells #[v2q_0, (Iv a2q.at_), (GV a2q.err)] 110 (0, 0))], [(g2, .cells #[(pt g2q 0)] 69 (0, 0))]] (f_record_Read_3_post a0 a1 a2q v2q_0 g1 g2 g2q res) := by
 unfold f_record_Read_3 at h
 refine Te Tryz.func101 rfl rfl ?_
 intro F ρ hρ
 refine Sr (Pa Zs rfl rfl (Nt (Cs (Sr (Pu (Iv a1) (Lb 0 pl3 (hρ 1) rfl rfl) rfl (Pm (Iv a0) (hρ 0) rfl (Pu (Iv (andI .i64 a1 a0)) (PO.and rfl rfl) rfl (Pu (Bv (decide ((andI .i64 a1 a0) = 0))) (PO.eql rfl rfl) rfl (Nt (Cd (b := decide ((andI .i64 a1 a0) = 0)) rfl (fun hb21 => ?_) (fun hb21 => ?_)))))))))))
 have h := ite_t hb21 h
 exact Sr (Pa Zs rfl rfl (Nt (Cr (Tr (WQ.e0 (WQ.f3 (WQ.f3 (WQ.f3 (Rf h [[(g1, .cells #[(Iv a1)] 3 (0, 0))], [(g2q, .cells #[v2q_0, (Iv a2q.at_), (GV a2q.err)] 110 (0, 0))], [(g2, .cells #[(pt g2q 0)] 69 (0, 0))], []] rfl (Rs rfl rfl) lr ⟨Zs, [], rfl, rfl, (OwnS.nil _ _)⟩)))))))))
 have h := ite_f hb21 h
 refine Ck (Tc (Sr (Pu (pt g2q 0) (Lb 2 pl69 (hρ 2) rfl rfl) rfl ?_)))
 obtain ⟨⟨r23, r24, r25⟩, hr26, h⟩ := bnd h
 refine WL.f1 (We (Cb co102 (f_wire_Reader_Row_ok a2q (7 : Int) (64 : Int) _ _ _ h2q_0 (r23, r24, r25) hr26) (args3 rfl rfl rfl)) rfl ?_)
 rintro _ M27 _ hle28 ⟨_, ⟨vq29, cq29, rfl, rfl, hq29⟩, rfl⟩
 exact WL.a2 (Pa vq29 rfl rfl (Nt (Cr (Qa (WQ.f3 (Qb (WQ.f3 (Rf h [[(g1, .cells #[(Iv a1)] 3 (0, 0))], [(g2q, .cells #[v2q_0, (Iv r24), (GV r25)] 110 (0, 0))], [(g2, .cells #[(pt g2q 0)] 69 (0, 0))], cq29] rfl (Rs rfl rfl) hle28 ⟨vq29, cq29, rfl, rfl, hq29⟩))))))))

noncomputable def f_api_Fault_Unwrap (a0 : T_api_Fault) : Option GErr :=
  (some a0.Err)
def f_api_Fault_Unwrap_post (a0 : T_api_Fault) : GErr → Value → IM → HL → Prop :=
  fun (r0 : GErr) (v : Value) (M' : IM) (H' : HL) => (GV r0) = v ∧ H' = []
theorem f_api_Fault_Unwrap_ok (a0 : T_api_Fault) (M : IM) (res : GErr) (h : f_api_Fault_Unwrap a0 = some res) :
    Tri Tryz.prog 168 #[(a108_ a0)] M [] (f_api_Fault_Unwrap_post a0 res) := by
 unfold f_api_Fault_Unwrap at h
 refine Te Tryz.func168 rfl rfl ?_
 intro F ρ hρ
 refine Sr (We (EO.box (cs := (l108 a0).toArray) (congrArg Value.cells (asE (a108_ a0) (hρ 0)))) rfl ?_)
 rintro _ _ _ - ⟨rfl, g21, rfl, rfl⟩
 exact Pa (GV GErr.nil) rfl rfl (Ns (Pu (pt g21 2) (Fa fo108_2 rfl rfl) rfl (Pu (GV a0.Err) (Lb 0 pl31 rfl rfl rfl) rfl (Pa (GV a0.Err) rfl rfl (Nt (Cr (Dr (Rf h [] rfl (Rs rfl rfl) lr ⟨rfl, rfl⟩))))))))

noncomputable def f_errors_as_code_l0 (a1 : Int) (s_ : GErr) : Option (GErr ⊕ (Bool × Int)) :=
  match s_ with
  | x23 =>
    (match x23 with | .nil => none | .code n26 => (some (Sum.inr (true, n26))) | .fault o27 a28 e29 => ((f_api_Fault_Unwrap (⟨o27, a28, e29⟩ : T_api_Fault)).bind fun (r32 : GErr) => (if r32.isNil = true then (some (Sum.inr (false, a1))) else (some (Sum.inl r32)))) | .other b30 => (some (Sum.inr (false, a1))))
noncomputable def f_errors_as_code (a0 : GErr) (a1 : Int) : Option (Bool × Int) :=
  ((iter (f_errors_as_code_l0 a1) a0).bind (fun (x24, x25) => (some (x24, x25))))
def f_errors_as_code_post (a0 : GErr) (a1 : Int) (g1 g2 : Nat) : (Bool × Int) → Value → IM → HL → Prop :=
  fun (p_ : (Bool × Int)) (v : Value) (M' : IM) (H' : HL) => match p_ with | (r0, r1) => (.bool r0) = v ∧ H' = [[(g1, .cells #[(.int .i64 r1)] 38 (0, 0))], [(g2, .cells #[(.pointer (some ⟨g1, 0, none⟩))] 119 (0, 0))]]
theorem f_errors_as_code_ok (a0 : GErr) (a1 : Int) (M : IM) (g1 g2 : Nat) (res : (Bool × Int)) (h : f_errors_as_code a0 a1 = some res) :
    Tri Tryz.prog 111 #[(GV a0), (.iface 119 (pt g1 0)), (.agg #[(pt 1 119), (pt g2 0), (Uv 150)]), (.iface 184 (.agg #[.pointer (some ⟨1, 38, none⟩)]))] M [[(g1, .cells #[(Iv a1)] 38 (0, 0))], [(g2, .cells #[(pt g1 0)] 119 (0, 0))]] (f_errors_as_code_post a0 a1 g1 g2 res) := by
 unfold f_errors_as_code at h
 refine Te Tryz.func111 rfl rfl ?_
 intro F ρ hρ
 refine Sr (We (EO.box (cs := #[(pt 1 119), (pt g2 0), (Uv 150)]) (congrArg Value.cells (asE (.agg #[(pt 1 119), (pt g2 0), (Uv 150)]) (hρ 2)))) rfl ?_)
 rintro _ _ _ - ⟨rfl, g21, rfl, rfl⟩
 refine Pa (Bv false) rfl rfl (Nt (Bk ?_))
 obtain ⟨e22, he22, hK22⟩ := bnd h
 clear h
 refine WC.loop he22 (fun (x23 : GErr) ρ' M' H' => M.le M' ∧ [(g21, .cells #[(pt 1 119), (pt g2 0), (Uv 150)] 153 (0, 0))] :: [(g1, .cells #[(Iv a1)] 38 (0, 0))] :: [(g2, .cells #[(pt g1 0)] 119 (0, 0))] :: F = H' ∧ ρ' 0 = (GV x23) ∧ ρ' 1 = (.iface 119 (pt g1 0)) ∧ ρ' 3 = (.iface 184 (.agg #[.pointer (some ⟨1, 38, none⟩)])) ∧ ρ' 6 = (pt g21 0)) ?_ ?_
 exact ⟨lr, rfl, (hρ 0), (hρ 1), (hρ 3), rfl⟩
 rintro x23 o22 ρ22 M22 H22 h ⟨hle22, rfl, hs22_0, hs22_1, hs22_3, hs22_6⟩
 unfold f_errors_as_code_l0 at h
 refine Bk (Cs (Sr (Pm (GV x23) hs22_0 rfl ?_)))
 rcases x23 with _ | n26 | ⟨o27, a28, e29⟩ | b30
 refine We (EO.extP xt91 (args1 (show ev _ _ = .nilIface from rfl)) tyNil) rfl ?_
 rintro _ _ _ - ⟨rfl, rfl, rfl⟩
 exact Pm (.iface 184 (.agg #[.pointer (some ⟨1, 38, none⟩)])) hs22_3 rfl (nones h)
 refine We (EO.extP xt91 (args1 (show ev _ _ = (.iface 38 (Iv n26)) from rfl)) (ty38 _)) rfl ?_
 rintro _ _ _ - ⟨rfl, rfl, rfl⟩
 refine Pm (.iface 184 (.agg #[.pointer (some ⟨1, 38, none⟩)])) hs22_3 rfl (We (EO.invE (show ev _ _ = (.iface 184 (.agg #[.pointer (some ⟨1, 38, none⟩)])) from rfl) (mm_AssignableTo (pt 1 38)) xt173 (inv1 rfl) mr_AssignableTo_38_38) rfl ?_)
 rintro _ _ _ - ⟨rfl, rfl, rfl⟩
 refine Nt (WC.condT (b := true) rfl rfl (Sr (Pu (.agg #[(pt 1 119), (pt g2 0), (Uv 150)]) (La (cs := [(pt 1 119), (pt g2 0), (Uv 150)]) 0 ag153 sz153 hs22_6 rfl rfl) rfl (We (EO.rvElem (r := fun p => .agg #[(pt 1 38), .pointer (some p), .int .u64 386]) 2 xt137 pp119_150 rfl pl119 el119 mk38 (args1 (show ev _ _ = (.agg #[(pt 1 119), (pt g2 0), (Uv 150)]) from rfl)) rfl) rfl ?_))))
 rintro _ _ _ - ⟨rfl, rfl, rfl⟩
 refine Pm (GV (GErr.code n26)) hs22_0 rfl (We (EO.valueOf xt108 (args1 (show ev _ _ = (.iface 38 (Iv n26)) from rfl)) (vo38 n26)) rfl ?_)
 rintro _ _ _ - ⟨rfl, g31, rfl, rfl⟩
 refine Wb (We (EO.rvSet (arr := [(Iv a1)]) (vl := [(Iv n26)]) (v := (Iv n26)) xt138 pp38_386 pp38_130 rfl da38 (args2 (show ev _ _ = (.agg #[(pt 1 38), (pt g1 0), (Uv 386)]) from rfl) (show ev _ _ = (.agg #[(pt 1 38), (pt g31 0), (Uv 130)]) from rfl)) (fun _ hs => run_loadPlain pl38 (hs.cellC 1 rfl (chunkCell_lit.trans rfl))) rfl sz38 rfl (onb rfl)) rfl ?_)
 rintro _ _ _ - ⟨rfl, rfl, rfl⟩
 refine Ns (Pa (Bv true) rfl rfl (Nt (Cr (Tr (Br (WQ.leaveR (true, n26) (oi h).symm (fun heq22 => ?_)))))))
 subst heq22
 have h := hK22
 exact Br (Qa (Dr (Qa (Dr (Rf h [[(g1, .cells #[(Iv n26)] 38 (0, 0))], [(g2, .cells #[(pt g1 0)] 119 (0, 0))]] rfl (Rs rfl rfl) hle22 ⟨rfl, rfl⟩)))))
 refine We (EO.extP xt91 (args1 (show ev _ _ = (.iface 108 (.agg #[.string o27, .int .i64 a28, GV e29])) from rfl)) (ty108 _)) rfl ?_
 rintro _ _ _ - ⟨rfl, rfl, rfl⟩
 refine Pm (.iface 184 (.agg #[.pointer (some ⟨1, 38, none⟩)])) hs22_3 rfl (We (EO.invE (show ev _ _ = (.iface 184 (.agg #[.pointer (some ⟨1, 108, none⟩)])) from rfl) (mm_AssignableTo (pt 1 108)) xt173 (inv1 rfl) mr_AssignableTo_108_38) rfl ?_)
 rintro _ _ _ - ⟨rfl, rfl, rfl⟩
 refine Nt (WC.condF (b := false) rfl rfl (Ck (Tc (Cs (Sr (Pm (GV (GErr.fault o27 a28 e29)) hs22_0 rfl (Pu (.tuple #[.nilIface, (Bv false)]) (PO.asserts (show ev _ _ = (.iface 108 (.agg #[.string o27, .int .i64 a28, GV e29])) from rfl) (la108_196 _ _)) rfl (Pm (.tuple #[.nilIface, (Bv false)]) rfl rfl (Pu .nilIface (Xt rfl rfl) rfl (Pu (Bv false) (Xt rfl rfl) rfl (Pa .nilIface rfl rfl ?_)))))))))))
 refine Pa (Bv false) rfl rfl (Ns (Pm (Bv false) rfl rfl (Pm (Bv false) rfl rfl ?_)))
 iterate 3 refine Of 31 rfl rfl rfl rfl ?_
 refine Pu (Bv false) (Pf rfl rfl rfl) rfl (Nt (WC.condF (b := false) rfl rfl (Ck (Tc (Sr (Pm (GV (GErr.fault o27 a28 e29)) hs22_0 rfl (Nt (Bk (Sr (Pu (.tuple #[(GV (GErr.fault o27 a28 e29)), (Bv true)]) (PO.asserts (show ev _ _ = (.iface 108 (.agg #[.string o27, .int .i64 a28, GV e29])) from rfl) (ha108_189 _ _)) rfl (Pu (Bv true) (Xt rfl rfl) rfl ?_)))))))))))
 refine Pu (GV (GErr.fault o27 a28 e29)) (Xt rfl rfl) rfl (Nt (WC.condT (b := true) rfl rfl (Sr (Pa (GV (GErr.fault o27 a28 e29)) rfl rfl (Ns (Pm (GV (GErr.fault o27 a28 e29)) rfl rfl ?_))))))
 obtain ⟨r32, hr33, h⟩ := bnd h
 refine We (EO.invT (show ev _ _ = (.iface 108 (.agg #[.string o27, .int .i64 a28, GV e29])) from rfl) (me108_Unwrap _) co168 inv0 (f_api_Fault_Unwrap_ok (⟨o27, a28, e29⟩ : T_api_Fault) _ r32 hr33)) rfl ?_
 rintro _ M34 _ hle35 ⟨_, ⟨rfl, rfl⟩, rfl⟩
 refine WL.a0 (Pa (GV r32) rfl rfl (Ns (Pm (GV r32) rfl rfl (Pu (Bv r32.isNil) (PO.errNil Tryz.underlying31 rfl) rfl (Nt (Cd (b := r32.isNil) rfl (fun hb37 => ?_) (fun hb37 => ?_)))))))
 have h := ite_t hb37 h
 refine Sr (Pa (Bv false) rfl rfl (Nt (Cr (Br (Br (WQ.leaveR (false, a1) (oi h).symm (fun heq22 => ?_)))))))
 subst heq22
 have h := hK22
 exact Br (Dr (Rf h [[(g1, .cells #[(Iv a1)] 38 (0, 0))], [(g2, .cells #[(pt g1 0)] 119 (0, 0))]] rfl (Rs rfl rfl) (hle22.trans hle35) ⟨rfl, rfl⟩))
 have h := ite_f hb37 h
 exact Ck (Bn (Bn (WQ.again r32 (oi h).symm ⟨(hle22.trans hle35), rfl, rfl, hs22_1, hs22_3, hs22_6⟩)))
 refine We (EO.extP xt91 (args1 (show ev _ _ = (.iface 0 (.pointer (some b30))) from rfl)) (ty0 _)) rfl ?_
 rintro _ _ _ - ⟨rfl, rfl, rfl⟩
 refine Pm (.iface 184 (.agg #[.pointer (some ⟨1, 38, none⟩)])) hs22_3 rfl (We (EO.invE (show ev _ _ = (.iface 184 (.agg #[.pointer (some ⟨1, 0, none⟩)])) from rfl) (mm_AssignableTo (pt 1 0)) xt173 (inv1 rfl) mr_AssignableTo_0_38) rfl ?_)
 rintro _ _ _ - ⟨rfl, rfl, rfl⟩
 refine Nt (WC.condF (b := false) rfl rfl (Ck (Tc (Cs (Sr (Pm (GV (GErr.other b30)) hs22_0 rfl (Pu (.tuple #[.nilIface, (Bv false)]) (PO.asserts (show ev _ _ = (.iface 0 (.pointer (some b30))) from rfl) (la0_196 _ _)) rfl (Pm (.tuple #[.nilIface, (Bv false)]) rfl rfl (Pu .nilIface (Xt rfl rfl) rfl (Pu (Bv false) (Xt rfl rfl) rfl (Pa .nilIface rfl rfl ?_)))))))))))
 refine Pa (Bv false) rfl rfl (Ns (Pm (Bv false) rfl rfl (Pm (Bv false) rfl rfl ?_)))
 iterate 3 refine Of 31 rfl rfl rfl rfl ?_
 refine Pu (Bv false) (Pf rfl rfl rfl) rfl (Nt (WC.condF (b := false) rfl rfl (Ck (Tc (Sr (Pm (GV (GErr.other b30)) hs22_0 rfl (Nt (Bk (Sr (Pu (.tuple #[.nilIface, (Bv false)]) (PO.asserts (show ev _ _ = (.iface 0 (.pointer (some b30))) from rfl) (la0_189 _ _)) rfl (Pu (Bv false) (Xt rfl rfl) rfl ?_)))))))))))
 refine Pu .nilIface (Xt rfl rfl) rfl (Nt (WC.condF (b := false) rfl rfl (Sr (Pu (.tuple #[.nilIface, (Bv false)]) (PO.asserts (show ev _ _ = (.iface 0 (.pointer (some b30))) from rfl) (la0_190 _ _)) rfl (Pu (Bv false) (Xt rfl rfl) rfl (Pu .nilIface (Xt rfl rfl) rfl (Nt (WC.condF (b := false) rfl rfl (Sr (Pa (GV (GErr.other b30)) rfl rfl (Ns ?_)))))))))))
 refine Pa (Bv false) rfl rfl (Nt (Cr (Br (Br (WQ.leaveR (false, a1) (oi h).symm (fun heq22 => ?_))))))
 subst heq22
 have h := hK22
 exact Br (Dr (Rf h [[(g1, .cells #[(Iv a1)] 38 (0, 0))], [(g2, .cells #[(pt g1 0)] 119 (0, 0))]] rfl (Rs rfl rfl) hle22 ⟨rfl, rfl⟩))

noncomputable def f_errors_As_code (a0 : GErr) (a1 : Int) : Option (Bool × Int) :=
  (if a0.isNil = true then (some (false, a1)) else ((f_errors_as_code a0 a1).bind fun (r24, r25) => (some (r24, r25))))
def f_errors_As_code_post (a0 : GErr) (a1 : Int) (g1 : Nat) : (Bool × Int) → Value → IM → HL → Prop :=
  fun (p_ : (Bool × Int)) (v : Value) (M' : IM) (H' : HL) => match p_ with | (r0, r1) => (.bool r0) = v ∧ H' = [[(g1, .cells #[(.int .i64 r1)] 38 (0, 0))]]
theorem f_errors_As_code_ok (a0 : GErr) (a1 : Int) (M : IM) (g1 : Nat) (hE : Env M) (res : (Bool × Int)) (h : f_errors_As_code a0 a1 = some res) :
    Tri Tryz.prog 75 #[(GV a0), (.iface 119 (pt g1 0))] M [[(g1, .cells #[(Iv a1)] 38 (0, 0))]] (f_errors_As_code_post a0 a1 g1 res) := by
 unfold f_errors_As_code at h
 refine Te Tryz.func75 rfl rfl ?_
 intro F ρ hρ
 refine Sr (Pa (Bv false) rfl rfl (Nt (Cs (Sr (Pm (GV a0) (hρ 0) rfl (Pu (Bv a0.isNil) (PO.errNil Tryz.underlying31 rfl) rfl (Nt (Cd (b := a0.isNil) rfl (fun hb21 => ?_) (fun hb21 => ?_)))))))))
 have h := ite_t hb21 h
 exact Sr (Pa (Bv false) rfl rfl (Nt (Cr (Tr (Rf h [[(g1, .cells #[(Iv a1)] 38 (0, 0))]] rfl (Rs rfl rfl) lr ⟨rfl, rfl⟩)))))
 have h := ite_f hb21 h
 refine Ck (Tc (Cs (Sr (Pm (.iface 119 (pt g1 0)) (hρ 1) rfl (Pu (Bv false) (PO.ifcNil Tryz.underlying20 rfl) rfl (Nt (WC.condF (b := false) rfl rfl (Ck (Tc (Sr (Pm (.iface 119 (pt g1 0)) (hρ 1) rfl ?_)))))))))))
 refine We (EO.valueOf xt108 (args1 (show ev _ _ = (.iface 119 (pt g1 0)) from rfl)) (vo119 ⟨g1, 0, none⟩)) rfl ?_
 rintro _ _ _ - ⟨rfl, g22, rfl, rfl⟩
 refine We (Al ze153 rfl) rfl ?_
 rintro _ _ _ - ⟨rfl, g23, rfl, rfl⟩
 refine We (Sg (v := (.agg #[(pt 1 119), (pt g22 0), (Uv 150)])) (vl := [(pt 1 119), (pt g22 0), (Uv 150)]) (arr' := [(pt 1 119), (pt g22 0), (Uv 150)]) rfl sz153 rfl rfl (onb rfl) rfl rfl rfl) rfl ?_
 rintro _ _ _ - ⟨rfl, rfl⟩
 refine Ns (Pu (.agg #[(pt 1 119), (pt g22 0), (Uv 150)]) (La (cs := [(pt 1 119), (pt g22 0), (Uv 150)]) 0 ag153 sz153 rfl rfl rfl) rfl (We (EO.extP xt109 (args1 (show ev _ _ = (.agg #[(pt 1 119), (pt g22 0), (Uv 150)]) from rfl)) (vt119_150 _)) rfl ?_))
 rintro _ _ _ - ⟨rfl, rfl, rfl⟩
 refine Pa (.iface 184 (.agg #[.pointer (some ⟨1, 119, none⟩)])) rfl rfl (Nt (Cs (Sr (Pm (.iface 184 (.agg #[.pointer (some ⟨1, 119, none⟩)])) rfl rfl (We (EO.invE (show ev _ _ = (.iface 184 (.agg #[.pointer (some ⟨1, 119, none⟩)])) from rfl) (mm_Kind (pt 1 119)) xt163 inv0 mr_Kind_119) rfl ?_)))))
 rintro _ _ _ - ⟨rfl, rfl, rfl⟩
 refine Pu (Bv false) (PO.neqR rfl rfl (by decide)) rfl (Pm (Bv false) rfl rfl (On 20 rfl rfl rfl (Pu (.agg #[(pt 1 119), (pt g22 0), (Uv 150)]) (La (cs := [(pt 1 119), (pt g22 0), (Uv 150)]) 0 ag153 sz153 rfl rfl rfl) rfl (On 20 rfl rfl rfl (We (EO.isNil 1 xt110 pp119_150 rfl pl119 (args1 (show ev _ _ = (.agg #[(pt 1 119), (pt g22 0), (Uv 150)]) from rfl)) rfl) rfl ?_)))))
 rintro _ _ _ - ⟨rfl, rfl, rfl⟩
 refine Pu (Bv false) (Pf rfl rfl rfl) rfl (Nt (WC.condF (b := false) rfl rfl (Ck (Tc (Sr (Pm (.iface 184 (.agg #[.pointer (some ⟨1, 119, none⟩)])) rfl rfl (We (EO.invE (show ev _ _ = (.iface 184 (.agg #[.pointer (some ⟨1, 119, none⟩)])) from rfl) (mm_Elem (pt 1 119)) xt175 inv0 mr_Elem_119) rfl ?_)))))))
 rintro _ _ _ - ⟨rfl, rfl, rfl⟩
 refine Pa (.iface 184 (.agg #[.pointer (some ⟨1, 38, none⟩)])) rfl rfl (Nt (Cs (Sr (Pm (.iface 184 (.agg #[.pointer (some ⟨1, 38, none⟩)])) rfl rfl (We (EO.invE (show ev _ _ = (.iface 184 (.agg #[.pointer (some ⟨1, 38, none⟩)])) from rfl) (mm_Kind (pt 1 38)) xt163 inv0 mr_Kind_38) rfl ?_)))))
 rintro _ _ _ - ⟨rfl, rfl, rfl⟩
 refine Pu (Bv true) (PO.neqR rfl rfl (by decide)) rfl (Pm (Bv true) rfl rfl (On 30 rfl rfl rfl (Pm (.iface 184 (.agg #[.pointer (some ⟨1, 38, none⟩)])) rfl rfl (On 30 rfl rfl rfl (Pu (.iface 184 (.agg #[.pointer (some ⟨1, 31, none⟩)])) (PO.loadG pl138 hE) rfl (On 30 rfl rfl rfl (We (EO.invE (show ev _ _ = (.iface 184 (.agg #[.pointer (some ⟨1, 38, none⟩)])) from rfl) (mm_Implements (pt 1 38)) xt176 (inv1 rfl) mr_Implements_38_31) rfl ?_)))))))
 rintro _ _ _ - ⟨rfl, rfl, rfl⟩
 refine On 30 rfl rfl rfl (Pu (Bv (!true)) (PO.not rfl) rfl (Pu (Bv (!true)) (Pt rfl rfl rfl) rfl (Nt (WC.condF (b := !true) rfl rfl (Ck (Tc (Sr (Pm (GV a0) (hρ 0) rfl (Pm (.iface 119 (pt g1 0)) (hρ 1) rfl (Pu (.agg #[(pt 1 119), (pt g22 0), (Uv 150)]) (La (cs := [(pt 1 119), (pt g22 0), (Uv 150)]) 0 ag153 sz153 rfl rfl rfl) rfl (Pm (.iface 184 (.agg #[.pointer (some ⟨1, 38, none⟩)])) rfl rfl ?_)))))))))))
 obtain ⟨⟨r24, r25⟩, hr26, h⟩ := bnd h
 refine WL.f1 (Wb (We (EO.call2 co111 (f_errors_as_code_ok a0 a1 _ _ _ (r24, r25) hr26) (args4 rfl rfl rfl rfl)) rfl ?_))
 rintro _ M27 _ hle28 ⟨_, ⟨rfl, rfl⟩, rfl⟩
 exact WL.a2 (Pa (Bv r24) rfl rfl (Nt (Cr (Qa (Dr (Qa (Dr (Rf h [[(g1, .cells #[(Iv r25)] 38 (0, 0))]] rfl (Rs rfl rfl) hle28 ⟨rfl, rfl⟩))))))))

noncomputable def f_fault_Of (a0 : GErr) : Option Int :=
  (if a0.isNil = true then (some (0 : Int)) else ((f_errors_As_code a0 (0 : Int)).bind fun (r23, r24) => (if r23 = true then (some r24) else (some (21 : Int)))))
def f_fault_Of_post (a0 : GErr) : Int → Value → IM → HL → Prop :=
  fun (r0 : Int) (v : Value) (M' : IM) (H' : HL) => (.int .i64 r0) = v ∧ H' = []
theorem f_fault_Of_ok (a0 : GErr) (M : IM) (hE : Env M) (res : Int) (h : f_fault_Of a0 = some res) :
    Tri Tryz.prog 45 #[(GV a0)] M [] (f_fault_Of_post a0 res) := by
 unfold f_fault_Of at h
 refine Te Tryz.func45 rfl rfl ?_
 intro F ρ hρ
 refine Sr (Pa (Iv 0) rfl rfl (Nt (Cs (Sr (Pm (GV a0) (hρ 0) rfl (Pu (Bv a0.isNil) (PO.errNil Tryz.underlying31 rfl) rfl (Nt (Cd (b := a0.isNil) rfl (fun hb21 => ?_) (fun hb21 => ?_)))))))))
 have h := ite_t hb21 h
 exact Sr (Pa (Iv 0) rfl rfl (Nt (Cr (Tr (Rf h [] rfl (Rs rfl rfl) lr ⟨rfl, rfl⟩)))))
 have h := ite_f hb21 h
 refine Ck (Tc (Sr (We (Al ze38 rfl) rfl ?_)))
 rintro _ _ _ - ⟨rfl, g22, rfl, rfl⟩
 refine Nt (Cs (Sr (Pm (GV a0) (hρ 0) rfl (Pu (.iface 119 (pt g22 0)) (PO.makeInterface cc119 rfl) rfl ?_))))
 obtain ⟨⟨r23, r24⟩, hr25, h⟩ := bnd h
 refine We (Cb co75 (f_errors_As_code_ok a0 (0 : Int) _ _ hE (r23, r24) hr25) (args2 rfl rfl)) rfl ?_
 rintro _ M26 _ hle27 ⟨_, ⟨rfl, rfl⟩, rfl⟩
 refine WL.a1 (Nt (Cd (b := r23) rfl (fun hb29 => ?_) (fun hb29 => ?_)))
 have h := ite_t hb29 h
 exact Sr (Pu (Iv r24) (Lb 0 pl38 rfl rfl rfl) rfl (Pa (Iv r24) rfl rfl (Nt (Cr (Tr (Dr (Rf h [] rfl (Rs rfl rfl) hle27 ⟨rfl, rfl⟩)))))))
 have h := ite_f hb29 h
 exact Ck (Tc (Sr (Pa (Iv 21) rfl rfl (Nt (Cr (Dr (Rf h [] rfl (Rs rfl rfl) hle27 ⟨rfl, rfl⟩)))))))

noncomputable def f_record_Read (a0 : T_wire_Reader) : Option (T_api_Record × Int × GErr) :=
  ((f_wire_Reader_Int a0 (63 : Int)).bind fun (r23, r24, r25) => ((((((f_wire_Reader_Err (⟨a0.b, r24, r25⟩ : T_wire_Reader)).bind fun (r35 : GErr) => (if r35.isNil = true then (if (decide (r23 < (1 : Int))) = true then (some true) else (some (decide ((12 : Int) < r23)))) else (some false))) : Option Bool).bind fun (x33 : Bool) => (if x33 = true then ((f_wire_Reader_Refuse (⟨a0.b, r24, r25⟩ : T_wire_Reader) (⟨#[107, 105, 110, 100]⟩ : ByteArray) (5 : Int)).bind fun (r43 : GErr) => (some r43)) else (some r25))) : Option GErr).bind fun (x31 : GErr) => ((f_record_about r23).bind fun (r47 : Int) => ((f_record_Read_1 (1 : Int) r47 (⟨a0.b, r24, x31⟩ : T_wire_Reader)).bind fun (r53, r54, r55) => ((f_record_Read_1 (2 : Int) r47 (⟨a0.b, r54, r55⟩ : T_wire_Reader)).bind fun (r60, r61, r62) => ((f_record_Read_1 (4 : Int) r47 (⟨a0.b, r61, r62⟩ : T_wire_Reader)).bind fun (r67, r68, r69) => ((f_record_Read_1 (8 : Int) r47 (⟨a0.b, r68, r69⟩ : T_wire_Reader)).bind fun (r74, r75, r76) => ((f_record_Read_1 (16 : Int) r47 (⟨a0.b, r75, r76⟩ : T_wire_Reader)).bind fun (r81, r82, r83) => ((f_record_Read_1 (32 : Int) r47 (⟨a0.b, r82, r83⟩ : T_wire_Reader)).bind fun (r88, r89, r90) => ((f_record_Read_1 (32 : Int) r47 (⟨a0.b, r89, r90⟩ : T_wire_Reader)).bind fun (r95, r96, r97) => ((f_record_Read_1 (32 : Int) r47 (⟨a0.b, r96, r97⟩ : T_wire_Reader)).bind fun (r102, r103, r104) => (((if (decide ((andI .i64 r47 (64 : Int)) ≠ (0 : Int))) = true then ((f_wire_Reader_Flag (⟨a0.b, r103, r104⟩ : T_wire_Reader)).bind fun (r114, r115, r116) => (some (r114, r115, r116))) else (some (false, r103, r104))) : Option (Bool × Int × GErr)).bind fun (x109, x110, x111) => ((f_record_Read_2 (128 : Int) r47 (⟨a0.b, x110, x111⟩ : T_wire_Reader)).bind fun (r121, r122, r123) => ((f_record_Read_2 (256 : Int) r47 (⟨a0.b, r122, r123⟩ : T_wire_Reader)).bind fun (r128, r129, r130) => ((f_record_Read_2 (512 : Int) r47 (⟨a0.b, r129, r130⟩ : T_wire_Reader)).bind fun (r135, r136, r137) => ((f_record_Read_2 (1024 : Int) r47 (⟨a0.b, r136, r137⟩ : T_wire_Reader)).bind fun (r142, r143, r144) => ((f_record_Read_3 (2048 : Int) r47 (⟨a0.b, r143, r144⟩ : T_wire_Reader)).bind fun (r149, r150, r151) => ((f_record_Read_3 (4096 : Int) r47 (⟨a0.b, r150, r151⟩ : T_wire_Reader)).bind fun (r156, r157, r158) => ((f_record_Read_3 (8192 : Int) r47 (⟨a0.b, r157, r158⟩ : T_wire_Reader)).bind fun (r163, r164, r165) => ((f_record_Read_3 (8192 : Int) r47 (⟨a0.b, r164, r165⟩ : T_wire_Reader)).bind fun (r170, r171, r172) => ((((f_wire_Reader_Err (⟨a0.b, r171, r172⟩ : T_wire_Reader)).bind fun (r179 : GErr) => (if r179.isNil = true then ((f_record_Check (⟨r23, r53, r60, r67, r74, r81, r88, r95, r102, x109, r121, r128, r135, r142, r149, r156, r163, r170⟩ : T_api_Record)).bind fun (r185 : GErr) => (if (!r185.isNil) = true then ((f_fault_Of r185).bind fun (r203 : Int) => ((f_wire_Reader_Refuse (⟨a0.b, r171, r172⟩ : T_wire_Reader) (⟨#[114, 101, 99, 111, 114, 100]⟩ : ByteArray) r203).bind fun (r208 : GErr) => (some r208))) else (some r172))) else (some r172))) : Option GErr).bind fun (x177 : GErr) => ((f_wire_Reader_Err (⟨a0.b, r171, x177⟩ : T_wire_Reader)).bind fun (r212 : GErr) => (if (!r212.isNil) = true then (some ((⟨(0 : Int), (0 : Int), (0 : Int), (0 : Int), (0 : Int), (0 : Int), (0 : Int), (0 : Int), (0 : Int), false, (⟨#[]⟩ : ByteArray), (⟨#[]⟩ : ByteArray), (⟨#[]⟩ : ByteArray), (⟨#[]⟩ : ByteArray), [], [], [], []⟩ : T_api_Record), r171, x177)) else (some ((⟨r23, r53, r60, r67, r74, r81, r88, r95, r102, x109, r121, r128, r135, r142, r149, r156, r163, r170⟩ : T_api_Record), r171, x177)))))))))))))))))))))))))
def f_record_Read_post (a0 : T_wire_Reader) (v0_0 : Value) (g0 : Nat) : (T_api_Record × Int × GErr) → Value → IM → HL → Prop :=
  fun (p_ : (T_api_Record × Int × GErr)) (v : Value) (M' : IM) (H' : HL) => match p_ with | (r0, r1, r2) => ∃ vz0_14 cz0_14 vz0_15 cz0_15 vz0_16 cz0_16 vz0_17 cz0_17, (.agg #[(.int .i64 r0.Kind), (.int .i64 r0.Broker), (.int .i64 r0.Epoch), (.int .i64 r0.Topic), (.int .i64 r0.Part), (.int .i64 r0.Leader), (.int .i64 r0.Client), (.int .i64 r0.Serial), (.int .i64 r0.Code), (.bool r0.Flag), (.string r0.Name), (.string r0.Key), (.string r0.Value), (.string r0.Rack), vz0_14, vz0_15, vz0_16, vz0_17]) = v ∧ H' = [[(g0, .cells #[v0_0, (.int .i64 r1), (GV r2)] 110 (0, 0))], cz0_14, cz0_15, cz0_16, cz0_17] ∧ OwnS (Kd.int .i64) M' vz0_14 r0.Ids cz0_14 ∧ OwnS (Kd.int .i64) M' vz0_15 r0.Isr cz0_15 ∧ OwnS (Kd.int .i64) M' vz0_16 r0.Add cz0_16 ∧ OwnS (Kd.int .i64) M' vz0_17 r0.Drop cz0_17
theorem f_record_Read_ok (a0 : T_wire_Reader) (M : IM) (v0_0 : Value) (g0 : Nat) (h0_0 : RS (Kd.int .u8) M v0_0 a0.b) (hE : Env M) (res : (T_api_Record × Int × GErr)) (h : f_record_Read a0 = some res) :
    Tri Tryz.prog 72 #[(pt g0 0)] M [[(g0, .cells #[v0_0, (Iv a0.at_), (GV a0.err)] 110 (0, 0))]] (f_record_Read_post a0 v0_0 g0 res) := by
 unfold f_record_Read at h
 refine Te Tryz.func72 rfl rfl ?_
 intro F ρ hρ
 refine Sr (We (EO.box (cs := #[(pt g0 0)]) (congrArg Value.cells (asE (pt g0 0) (hρ 0)))) rfl ?_)
 rintro _ _ _ - ⟨rfl, g21, rfl, rfl⟩
 refine We (Al ze58 rfl) rfl ?_
 rintro _ _ _ - ⟨rfl, g22, rfl, rfl⟩
 refine Ns (Pu (pt g0 0) (Lb 1 pl69 rfl rfl rfl) rfl ?_)
 obtain ⟨⟨r23, r24, r25⟩, hr26, h⟩ := bnd h
 refine Wb (We (Cb co32 (f_wire_Reader_Int_ok a0 (63 : Int) _ _ _ h0_0 (r23, r24, r25) hr26) (args2 rfl rfl)) rfl ?_)
 rintro _ M27 _ hle28 ⟨_, ⟨rfl, rfl⟩, rfl⟩
 refine WL.a1 (Pu (.agg #[(Iv r23), (Iv 0), (Iv 0), (Iv 0), (Iv 0), (Iv 0), (Iv 0), (Iv 0), (Iv 0), (Bv false), (Sv ⟨#[]⟩), (Sv ⟨#[]⟩), (Sv ⟨#[]⟩), (Sv ⟨#[]⟩), Zs, Zs, Zs, Zs]) (Bl (cl := [(Iv r23), (Iv 0), (Iv 0), (Iv 0), (Iv 0), (Iv 0), (Iv 0), (Iv 0), (Iv 0), (Bv false), (Sv ⟨#[]⟩), (Sv ⟨#[]⟩), (Sv ⟨#[]⟩), (Sv ⟨#[]⟩), Zs, Zs, Zs, Zs]) ze58 fp58 (Pc (Iv r23) rfl rfl Pz) rfl) rfl (We (Al ze58 rfl) rfl ?_))
 rintro _ _ _ - ⟨rfl, g30, rfl, rfl⟩
 refine We (Sg (v := (.agg #[(Iv r23), (Iv 0), (Iv 0), (Iv 0), (Iv 0), (Iv 0), (Iv 0), (Iv 0), (Iv 0), (Bv false), (Sv ⟨#[]⟩), (Sv ⟨#[]⟩), (Sv ⟨#[]⟩), (Sv ⟨#[]⟩), Zs, Zs, Zs, Zs])) (vl := [(Iv r23), (Iv 0), (Iv 0), (Iv 0), (Iv 0), (Iv 0), (Iv 0), (Iv 0), (Iv 0), (Bv false), (Sv ⟨#[]⟩), (Sv ⟨#[]⟩), (Sv ⟨#[]⟩), (Sv ⟨#[]⟩), Zs, Zs, Zs, Zs]) (arr' := [(Iv r23), (Iv 0), (Iv 0), (Iv 0), (Iv 0), (Iv 0), (Iv 0), (Iv 0), (Iv 0), (Bv false), (Sv ⟨#[]⟩), (Sv ⟨#[]⟩), (Sv ⟨#[]⟩), (Sv ⟨#[]⟩), Zs, Zs, Zs, Zs]) rfl sz58 rfl rfl (onb rfl) rfl rfl (by kernel_rfl)) rfl ?_
 rintro _ _ _ - ⟨rfl, rfl⟩
 refine Nt ?_
 obtain ⟨x31, hj32, h⟩ := bnd h
 refine Jf (fun (x31 : GErr) ρ' M' H' => M27.le M' ∧ [(g30, .cells #[(Iv r23), (Iv 0), (Iv 0), (Iv 0), (Iv 0), (Iv 0), (Iv 0), (Iv 0), (Iv 0), (Bv false), (Sv ⟨#[]⟩), (Sv ⟨#[]⟩), (Sv ⟨#[]⟩), (Sv ⟨#[]⟩), Zs, Zs, Zs, Zs] 58 (0, 0))] :: [(g0, .cells #[v0_0, (Iv r24), (GV x31)] 110 (0, 0))] :: [(g22, .cells z58_.toArray 58 (0, 0))] :: [(g21, .cells #[(pt g0 0)] 69 (0, 0))] :: F = H' ∧ ρ' 1 = (pt g21 0) ∧ ρ' 2 = (pt g22 0) ∧ ρ' 3 = (pt g30 0)) x31 ?_ ?_
 have h332 := h
 have h := hj32
 obtain ⟨x33, hj34, h⟩ := bnd h
 refine Jf (fun (x33 : Bool) ρ' M' H' => M27.le M' ∧ [(g30, .cells #[(Iv r23), (Iv 0), (Iv 0), (Iv 0), (Iv 0), (Iv 0), (Iv 0), (Iv 0), (Iv 0), (Bv false), (Sv ⟨#[]⟩), (Sv ⟨#[]⟩), (Sv ⟨#[]⟩), (Sv ⟨#[]⟩), Zs, Zs, Zs, Zs] 58 (0, 0))] :: [(g0, .cells #[v0_0, (Iv r24), (GV r25)] 110 (0, 0))] :: [(g22, .cells z58_.toArray 58 (0, 0))] :: [(g21, .cells #[(pt g0 0)] 69 (0, 0))] :: F = H' ∧ ρ' 1 = (pt g21 0) ∧ ρ' 2 = (pt g22 0) ∧ ρ' 3 = (pt g30 0) ∧ ρ' 24 = (Bv x33)) x33 ?_ ?_
 have h334 := h
 have h := hj34
 refine Cg (Pu (pt g0 0) (Lb 3 pl69 rfl rfl rfl) rfl ?_)
 obtain ⟨r35, hr36, h⟩ := bnd h
 refine WL.f1 ?_
 have h0_0 := h0_0.mono hle28
 refine We (Cb co36 (f_wire_Reader_Err_ok (⟨a0.b, r24, r25⟩ : T_wire_Reader) _ _ _ h0_0 r35 hr36) (args1 rfl)) rfl ?_
 rintro _ M37 _ hle38 ⟨_, ⟨rfl, rfl⟩, rfl⟩
 refine WL.a1 (Pu (Bv r35.isNil) (PO.errNil Tryz.underlying31 rfl) rfl (Pm (Bv r35.isNil) rfl rfl ?_))
 rcases Bt (r35.isNil) with hb40 | hb40
 have h := ite_t hb40 h
 refine On 15 rfl rfl hb40 (Pu (pt g30 0) (Fa fo58_0 rfl rfl) rfl (On 15 rfl rfl hb40 (Pu (Iv r23) (Lb 1 pl3 rfl rfl rfl) rfl (On 15 rfl rfl hb40 (Pu (Bv (decide (r23 < 1))) (PO.lss rfl rfl) rfl (On 15 rfl rfl hb40 (Pm (Bv (decide (r23 < 1))) rfl rfl ?_)))))))
 rcases Bt (decide (r23 < 1)) with hb41 | hb41
 have h := ite_t hb41 h
 iterate 3 refine Of 19 rfl rfl hb41 rfl ?_
 refine On 15 rfl rfl hb40 (Pu (Bv true) (Pt rfl hb41 rfl) rfl (Pu (Bv true) (Pt rfl hb40 rfl) rfl (Wz (WQ.f3 (WQ.f3 (Qb (WQ.f3 ?_)))))))
 obtain rfl := oi h
 exact Tj ⟨hle38, rfl, rfl, rfl, rfl, rfl⟩
 have h := ite_f hb41 h
 refine On 19 rfl rfl hb41 (Pu (pt g30 0) (Fa fo58_0 rfl rfl) rfl (On 19 rfl rfl hb41 (Pu (Iv r23) (Lb 1 pl3 rfl rfl rfl) rfl (On 19 rfl rfl hb41 (Pu (Bv (decide ((12 : Int) < r23))) (PO.gtr rfl rfl) rfl (On 15 rfl rfl hb40 (Pu (Bv (decide ((12 : Int) < r23))) (Pf rfl hb41 rfl) rfl (Pu (Bv (decide ((12 : Int) < r23))) (Pt rfl hb40 rfl) rfl (Wz (WQ.f3 (WQ.f3 ?_)))))))))))
 refine Qb (WQ.f3 ?_)
 obtain rfl := oi h
 exact Tj ⟨hle38, rfl, rfl, rfl, rfl, rfl⟩
 have h := ite_f hb40 h
 iterate 4 refine Of 15 rfl rfl hb40 rfl ?_
 refine WL.offU 19 rfl rfl rfl (WL.offU 19 rfl rfl rfl (WL.offU 19 rfl rfl rfl (Of 15 rfl rfl hb40 rfl (Pu (Bv false) (Pf rfl hb40 rfl) rfl (Wz (WQ.f3 (WQ.f3 (Qb (WQ.f3 ?_)))))))))
 obtain rfl := oi h
 exact Tj ⟨hle38, rfl, rfl, rfl, rfl, rfl⟩
 rintro ρ34 M34 H34 ⟨hle34, rfl, hs34_1, hs34_2, hs34_3, hs34_24⟩
 refine Cd (b := x33) hs34_24 (fun hb42 => ?_) (fun hb42 => ?_)
 have h := ite_t hb42 h
 refine Cg (Pu (pt g0 0) (Lb 3 pl69 hs34_1 rfl rfl) rfl ?_)
 obtain ⟨r43, hr44, h⟩ := bnd h
 refine WL.f1 ?_
 have h0_0 := h0_0.mono (hle28.trans hle34)
 refine We (Cb co71 (f_wire_Reader_Refuse_ok (⟨a0.b, r24, r25⟩ : T_wire_Reader) (⟨#[107, 105, 110, 100]⟩ : ByteArray) (5 : Int) _ _ _ h0_0 r43 hr44) (args3 rfl rfl rfl)) rfl ?_
 rintro _ M45 _ hle46 ⟨_, ⟨rfl, rfl⟩, rfl⟩
 refine WL.a1 (Wz (WQ.f3 (WQ.f3 (Qb (WQ.f3 ?_)))))
 obtain rfl := oi h
 exact Tj ⟨(hle34.trans hle46), rfl, hs34_1, hs34_2, hs34_3⟩
 have h := ite_f hb42 h
 refine Ck ?_
 obtain rfl := oi h
 exact Tj ⟨hle34, rfl, hs34_1, hs34_2, hs34_3⟩
 rintro ρ32 M32 H32 ⟨hle32, rfl, hs32_1, hs32_2, hs32_3⟩
 refine Sr (Pu (pt g30 0) (Fa fo58_0 hs32_3 rfl) rfl (Pu (Iv r23) (Lb 0 pl3 rfl rfl rfl) rfl ?_))
 obtain ⟨r47, hr48, h⟩ := bnd h
 refine We (Ca co93 (f_record_about_ok r23 _ r47 hr48) (args1 rfl)) rfl ?_
 rintro _ M49 _ hle50 ⟨_, ⟨rfl, rfl⟩, rfl⟩
 refine WL.a0 (We (Al ze3 rfl) rfl ?_)
 rintro _ _ _ - ⟨rfl, g52, rfl, rfl⟩
 refine We (Es (Iv r47) [(Iv r47)] rfl sz3 rfl rfl rfl rfl rfl rfl) rfl ?_
 rintro _ _ _ - ⟨rfl, rfl⟩
 refine Ns (Pu (.func (.func 99) #[] #[(pt g52 0), (pt g21 0)]) (PO.makeFunc2 (args0) (args2 (show ev _ _ = (pt g52 0) from rfl) (asE (Value.pointer (some ⟨g21, 0, none⟩)) hs32_1))) rfl (Pa (.func (.func 99) #[] #[(pt g52 0), (pt g21 0)]) rfl rfl (Ns (Pm (.func (.func 99) #[] #[(pt g52 0), (pt g21 0)]) rfl rfl ?_))))
 obtain ⟨⟨r53, r54, r55⟩, hr56, h⟩ := bnd h
 refine WL.f4 (WL.f3 (Wb ?_))
 have h0_0 := h0_0.mono ((hle28.trans hle32).trans hle50)
 refine We (EO.callV3 (first := #[]) (cap := #[(pt g52 0), (pt g21 0)]) co99 rfl (f_record_Read_1_ok (1 : Int) r47 (⟨a0.b, r24, x31⟩ : T_wire_Reader) _ _ _ _ _ h0_0 (r53, r54, r55) hr56) (argsV1 rfl rfl)) rfl ?_
 rintro _ M57 _ hle58 ⟨_, ⟨rfl, rfl⟩, rfl⟩
 refine WL.a3 (Pm (.func (.func 99) #[] #[(pt g52 0), (pt g21 0)]) rfl rfl ?_)
 obtain ⟨⟨r60, r61, r62⟩, hr63, h⟩ := bnd h
 refine Wb (Wb (Wb ?_))
 have h0_0 := h0_0.mono hle58
 refine We (EO.callV3 (first := #[]) (cap := #[(pt g52 0), (pt g21 0)]) co99 rfl (f_record_Read_1_ok (2 : Int) r47 (⟨a0.b, r54, r55⟩ : T_wire_Reader) _ _ _ _ _ h0_0 (r60, r61, r62) hr63) (argsV1 rfl rfl)) rfl ?_
 rintro _ M64 _ hle65 ⟨_, ⟨rfl, rfl⟩, rfl⟩
 refine WL.a3 (Pm (.func (.func 99) #[] #[(pt g52 0), (pt g21 0)]) rfl rfl ?_)
 obtain ⟨⟨r67, r68, r69⟩, hr70, h⟩ := bnd h
 refine Wb (Wb (Wb ?_))
 have h0_0 := h0_0.mono hle65
 refine We (EO.callV3 (first := #[]) (cap := #[(pt g52 0), (pt g21 0)]) co99 rfl (f_record_Read_1_ok (4 : Int) r47 (⟨a0.b, r61, r62⟩ : T_wire_Reader) _ _ _ _ _ h0_0 (r67, r68, r69) hr70) (argsV1 rfl rfl)) rfl ?_
 rintro _ M71 _ hle72 ⟨_, ⟨rfl, rfl⟩, rfl⟩
 refine WL.a3 (Pu (pt g30 1) (Fa fo58_1 hs32_3 rfl) rfl (WL.f3 (We (Es (Iv r53) [(Iv r23), (Iv r53), (Iv 0), (Iv 0), (Iv 0), (Iv 0), (Iv 0), (Iv 0), (Iv 0), (Bv false), (Sv ⟨#[]⟩), (Sv ⟨#[]⟩), (Sv ⟨#[]⟩), (Sv ⟨#[]⟩), Zs, Zs, Zs, Zs] rfl sz3 rfl rfl rfl rfl rfl (by kernel_rfl)) rfl ?_)))
 rintro _ _ _ - ⟨rfl, rfl⟩
 refine Pu (pt g30 2) (Fa fo58_2 hs32_3 rfl) rfl (We (Es (Iv r60) [(Iv r23), (Iv r53), (Iv r60), (Iv 0), (Iv 0), (Iv 0), (Iv 0), (Iv 0), (Iv 0), (Bv false), (Sv ⟨#[]⟩), (Sv ⟨#[]⟩), (Sv ⟨#[]⟩), (Sv ⟨#[]⟩), Zs, Zs, Zs, Zs] rfl sz3 rfl rfl rfl rfl rfl (by kernel_rfl)) rfl ?_)
 rintro _ _ _ - ⟨rfl, rfl⟩
 refine Pu (pt g30 3) (Fa fo58_3 hs32_3 rfl) rfl (We (Es (Iv r67) [(Iv r23), (Iv r53), (Iv r60), (Iv r67), (Iv 0), (Iv 0), (Iv 0), (Iv 0), (Iv 0), (Bv false), (Sv ⟨#[]⟩), (Sv ⟨#[]⟩), (Sv ⟨#[]⟩), (Sv ⟨#[]⟩), Zs, Zs, Zs, Zs] rfl sz3 rfl rfl rfl rfl rfl (by kernel_rfl)) rfl ?_)
 rintro _ _ _ - ⟨rfl, rfl⟩
 refine Ns (Pm (.func (.func 99) #[] #[(pt g52 0), (pt g21 0)]) rfl rfl ?_)
 obtain ⟨⟨r74, r75, r76⟩, hr77, h⟩ := bnd h
 refine WL.f3 (WL.f3 (WL.f3 ?_))
 have h0_0 := h0_0.mono hle72
 refine We (EO.callV3 (first := #[]) (cap := #[(pt g52 0), (pt g21 0)]) co99 rfl (f_record_Read_1_ok (8 : Int) r47 (⟨a0.b, r68, r69⟩ : T_wire_Reader) _ _ _ _ _ h0_0 (r74, r75, r76) hr77) (argsV1 rfl rfl)) rfl ?_
 rintro _ M78 _ hle79 ⟨_, ⟨rfl, rfl⟩, rfl⟩
 refine WL.a3 (Pm (.func (.func 99) #[] #[(pt g52 0), (pt g21 0)]) rfl rfl ?_)
 obtain ⟨⟨r81, r82, r83⟩, hr84, h⟩ := bnd h
 refine Wb (Wb (Wb ?_))
 have h0_0 := h0_0.mono hle79
 refine We (EO.callV3 (first := #[]) (cap := #[(pt g52 0), (pt g21 0)]) co99 rfl (f_record_Read_1_ok (16 : Int) r47 (⟨a0.b, r75, r76⟩ : T_wire_Reader) _ _ _ _ _ h0_0 (r81, r82, r83) hr84) (argsV1 rfl rfl)) rfl ?_
 rintro _ M85 _ hle86 ⟨_, ⟨rfl, rfl⟩, rfl⟩
 refine WL.a3 (Pu (pt g30 4) (Fa fo58_4 hs32_3 rfl) rfl (WL.f3 (We (Es (Iv r74) [(Iv r23), (Iv r53), (Iv r60), (Iv r67), (Iv r74), (Iv 0), (Iv 0), (Iv 0), (Iv 0), (Bv false), (Sv ⟨#[]⟩), (Sv ⟨#[]⟩), (Sv ⟨#[]⟩), (Sv ⟨#[]⟩), Zs, Zs, Zs, Zs] rfl sz3 rfl rfl rfl rfl rfl (by kernel_rfl)) rfl ?_)))
 rintro _ _ _ - ⟨rfl, rfl⟩
 refine Pu (pt g30 5) (Fa fo58_5 hs32_3 rfl) rfl (We (Es (Iv r81) [(Iv r23), (Iv r53), (Iv r60), (Iv r67), (Iv r74), (Iv r81), (Iv 0), (Iv 0), (Iv 0), (Bv false), (Sv ⟨#[]⟩), (Sv ⟨#[]⟩), (Sv ⟨#[]⟩), (Sv ⟨#[]⟩), Zs, Zs, Zs, Zs] rfl sz3 rfl rfl rfl rfl rfl (by kernel_rfl)) rfl ?_)
 rintro _ _ _ - ⟨rfl, rfl⟩
 refine Ns (Pm (.func (.func 99) #[] #[(pt g52 0), (pt g21 0)]) rfl rfl ?_)
 obtain ⟨⟨r88, r89, r90⟩, hr91, h⟩ := bnd h
 refine WL.f3 (WL.f3 (WL.f3 ?_))
 have h0_0 := h0_0.mono hle86
 refine We (EO.callV3 (first := #[]) (cap := #[(pt g52 0), (pt g21 0)]) co99 rfl (f_record_Read_1_ok (32 : Int) r47 (⟨a0.b, r82, r83⟩ : T_wire_Reader) _ _ _ _ _ h0_0 (r88, r89, r90) hr91) (argsV1 rfl rfl)) rfl ?_
 rintro _ M92 _ hle93 ⟨_, ⟨rfl, rfl⟩, rfl⟩
 refine WL.a3 (Pm (.func (.func 99) #[] #[(pt g52 0), (pt g21 0)]) rfl rfl ?_)
 obtain ⟨⟨r95, r96, r97⟩, hr98, h⟩ := bnd h
 refine Wb (Wb (Wb ?_))
 have h0_0 := h0_0.mono hle93
 refine We (EO.callV3 (first := #[]) (cap := #[(pt g52 0), (pt g21 0)]) co99 rfl (f_record_Read_1_ok (32 : Int) r47 (⟨a0.b, r89, r90⟩ : T_wire_Reader) _ _ _ _ _ h0_0 (r95, r96, r97) hr98) (argsV1 rfl rfl)) rfl ?_
 rintro _ M99 _ hle100 ⟨_, ⟨rfl, rfl⟩, rfl⟩
 refine WL.a3 (Pm (.func (.func 99) #[] #[(pt g52 0), (pt g21 0)]) rfl rfl ?_)
 obtain ⟨⟨r102, r103, r104⟩, hr105, h⟩ := bnd h
 refine Wb (Wb (Wb ?_))
 have h0_0 := h0_0.mono hle100
 refine We (EO.callV3 (first := #[]) (cap := #[(pt g52 0), (pt g21 0)]) co99 rfl (f_record_Read_1_ok (32 : Int) r47 (⟨a0.b, r96, r97⟩ : T_wire_Reader) _ _ _ _ _ h0_0 (r102, r103, r104) hr105) (argsV1 rfl rfl)) rfl ?_
 rintro _ M106 _ hle107 ⟨_, ⟨rfl, rfl⟩, rfl⟩
 refine WL.a3 (Pu (pt g30 6) (Fa fo58_6 hs32_3 rfl) rfl (WL.f3 (We (Es (Iv r88) [(Iv r23), (Iv r53), (Iv r60), (Iv r67), (Iv r74), (Iv r81), (Iv r88), (Iv 0), (Iv 0), (Bv false), (Sv ⟨#[]⟩), (Sv ⟨#[]⟩), (Sv ⟨#[]⟩), (Sv ⟨#[]⟩), Zs, Zs, Zs, Zs] rfl sz3 rfl rfl rfl rfl rfl (by kernel_rfl)) rfl ?_)))
 rintro _ _ _ - ⟨rfl, rfl⟩
 refine Pu (pt g30 7) (Fa fo58_7 hs32_3 rfl) rfl (We (Es (Iv r95) [(Iv r23), (Iv r53), (Iv r60), (Iv r67), (Iv r74), (Iv r81), (Iv r88), (Iv r95), (Iv 0), (Bv false), (Sv ⟨#[]⟩), (Sv ⟨#[]⟩), (Sv ⟨#[]⟩), (Sv ⟨#[]⟩), Zs, Zs, Zs, Zs] rfl sz3 rfl rfl rfl rfl rfl (by kernel_rfl)) rfl ?_)
 rintro _ _ _ - ⟨rfl, rfl⟩
 refine Pu (pt g30 8) (Fa fo58_8 hs32_3 rfl) rfl (We (Es (Iv r102) [(Iv r23), (Iv r53), (Iv r60), (Iv r67), (Iv r74), (Iv r81), (Iv r88), (Iv r95), (Iv r102), (Bv false), (Sv ⟨#[]⟩), (Sv ⟨#[]⟩), (Sv ⟨#[]⟩), (Sv ⟨#[]⟩), Zs, Zs, Zs, Zs] rfl sz3 rfl rfl rfl rfl rfl (by kernel_rfl)) rfl ?_)
 rintro _ _ _ - ⟨rfl, rfl⟩
 refine Nt ?_
 obtain ⟨j112, hj112, h⟩ := bnd h
 refine Jf (fun (p_ : (Bool × Int × GErr)) ρ' M' H' => match p_ with | (x109, x110, x111) => M106.le M' ∧ [(g30, .cells #[(Iv r23), (Iv r53), (Iv r60), (Iv r67), (Iv r74), (Iv r81), (Iv r88), (Iv r95), (Iv r102), (Bv x109), (Sv ⟨#[]⟩), (Sv ⟨#[]⟩), (Sv ⟨#[]⟩), (Sv ⟨#[]⟩), Zs, Zs, Zs, Zs] 58 (0, 0))] :: [(g52, .cells #[(Iv r47)] 3 (0, 0))] :: [(g0, .cells #[v0_0, (Iv x110), (GV x111)] 110 (0, 0))] :: [(g21, .cells #[(pt g0 0)] 69 (0, 0))] :: [(g22, .cells z58_.toArray 58 (0, 0))] :: F = H' ∧ ρ' 1 = (pt g21 0) ∧ ρ' 2 = (pt g22 0) ∧ ρ' 3 = (pt g30 0) ∧ ρ' 4 = (pt g52 0)) j112 ?_ ?_
 have h3112 := h
 have h := hj112
 refine Sr (Pu (Iv r47) (Lb 1 pl3 rfl rfl rfl) rfl (Pu (Iv (andI .i64 r47 (64 : Int))) (PO.and rfl rfl) rfl (Pu (Bv (decide ((andI .i64 r47 (64 : Int)) ≠ 0))) (PO.neq rfl rfl) rfl (Nt (Cd (b := decide ((andI .i64 r47 (64 : Int)) ≠ 0)) rfl (fun hb113 => ?_) (fun hb113 => ?_))))))
 have h := ite_t hb113 h
 refine Cg (Pu (pt g0 0) (Lb 3 pl69 hs32_1 rfl rfl) rfl ?_)
 obtain ⟨⟨r114, r115, r116⟩, hr117, h⟩ := bnd h
 refine Wb ?_
 have h0_0 := h0_0.mono hle107
 refine We (Cb co34 (f_wire_Reader_Flag_ok (⟨a0.b, r103, r104⟩ : T_wire_Reader) _ _ _ h0_0 (r114, r115, r116) hr117) (args1 rfl)) rfl ?_
 rintro _ M118 _ hle119 ⟨_, ⟨rfl, rfl⟩, rfl⟩
 refine WL.a1 (Pu (pt g30 9) (Fa fo58_9 hs32_3 rfl) rfl (WL.f1 (We (Es (Bv r114) [(Iv r23), (Iv r53), (Iv r60), (Iv r67), (Iv r74), (Iv r81), (Iv r88), (Iv r95), (Iv r102), (Bv r114), (Sv ⟨#[]⟩), (Sv ⟨#[]⟩), (Sv ⟨#[]⟩), (Sv ⟨#[]⟩), Zs, Zs, Zs, Zs] rfl sz4 rfl rfl rfl rfl rfl (by kernel_rfl)) rfl ?_)))
 rintro _ _ _ - ⟨rfl, rfl⟩
 refine Wz (WQ.f4 (WQ.f4 (WQ.f3 (WQ.f4 (WQ.f4 ?_)))))
 obtain rfl := oi h
 exact Tj ⟨hle119, rfl, hs32_1, hs32_2, hs32_3, rfl⟩
 have h := ite_f hb113 h
 refine Ck ?_
 obtain rfl := oi h
 exact Tj ⟨lr, rfl, hs32_1, hs32_2, hs32_3, rfl⟩
 obtain ⟨x109, x110, x111⟩ := j112
 rintro ρ112 M112 H112 ⟨hle112, rfl, hs112_1, hs112_2, hs112_3, hs112_4⟩
 refine Sr (Pu (.func (.func 100) #[] #[(pt g52 0), (pt g21 0)]) (PO.makeFunc2 (args0) (args2 (asE (Value.pointer (some ⟨g52, 0, none⟩)) hs112_4) (asE (Value.pointer (some ⟨g21, 0, none⟩)) hs112_1))) rfl (Pa (.func (.func 100) #[] #[(pt g52 0), (pt g21 0)]) rfl rfl (Ns (Pm (.func (.func 100) #[] #[(pt g52 0), (pt g21 0)]) rfl rfl ?_))))
 obtain ⟨⟨r121, r122, r123⟩, hr124, h⟩ := bnd h
 refine WL.f3 (WL.f3 (WL.f3 ?_))
 have h0_0 := h0_0.mono (hle107.trans hle112)
 refine We (EO.callV3 (first := #[]) (cap := #[(pt g52 0), (pt g21 0)]) co100 rfl (f_record_Read_2_ok (128 : Int) r47 (⟨a0.b, x110, x111⟩ : T_wire_Reader) _ _ _ _ _ h0_0 (r121, r122, r123) hr124) (argsV1 rfl rfl)) rfl ?_
 rintro _ M125 _ hle126 ⟨_, ⟨rfl, rfl⟩, rfl⟩
 refine WL.a3 (Pm (.func (.func 100) #[] #[(pt g52 0), (pt g21 0)]) rfl rfl ?_)
 obtain ⟨⟨r128, r129, r130⟩, hr131, h⟩ := bnd h
 refine Wb (Wb (Wb ?_))
 have h0_0 := h0_0.mono hle126
 refine We (EO.callV3 (first := #[]) (cap := #[(pt g52 0), (pt g21 0)]) co100 rfl (f_record_Read_2_ok (256 : Int) r47 (⟨a0.b, r122, r123⟩ : T_wire_Reader) _ _ _ _ _ h0_0 (r128, r129, r130) hr131) (argsV1 rfl rfl)) rfl ?_
 rintro _ M132 _ hle133 ⟨_, ⟨rfl, rfl⟩, rfl⟩
 refine WL.a3 (Pm (.func (.func 100) #[] #[(pt g52 0), (pt g21 0)]) rfl rfl ?_)
 obtain ⟨⟨r135, r136, r137⟩, hr138, h⟩ := bnd h
 refine Wb (Wb (Wb ?_))
 have h0_0 := h0_0.mono hle133
 refine We (EO.callV3 (first := #[]) (cap := #[(pt g52 0), (pt g21 0)]) co100 rfl (f_record_Read_2_ok (512 : Int) r47 (⟨a0.b, r129, r130⟩ : T_wire_Reader) _ _ _ _ _ h0_0 (r135, r136, r137) hr138) (argsV1 rfl rfl)) rfl ?_
 rintro _ M139 _ hle140 ⟨_, ⟨rfl, rfl⟩, rfl⟩
 refine WL.a3 (Pm (.func (.func 100) #[] #[(pt g52 0), (pt g21 0)]) rfl rfl ?_)
 obtain ⟨⟨r142, r143, r144⟩, hr145, h⟩ := bnd h
 refine Wb (Wb (Wb ?_))
 have h0_0 := h0_0.mono hle140
 refine We (EO.callV3 (first := #[]) (cap := #[(pt g52 0), (pt g21 0)]) co100 rfl (f_record_Read_2_ok (1024 : Int) r47 (⟨a0.b, r136, r137⟩ : T_wire_Reader) _ _ _ _ _ h0_0 (r142, r143, r144) hr145) (argsV1 rfl rfl)) rfl ?_
 rintro _ M146 _ hle147 ⟨_, ⟨rfl, rfl⟩, rfl⟩
 refine WL.a3 (Pu (pt g30 10) (Fa fo58_10 hs112_3 rfl) rfl (WL.f3 (We (Es (Sv r121) [(Iv r23), (Iv r53), (Iv r60), (Iv r67), (Iv r74), (Iv r81), (Iv r88), (Iv r95), (Iv r102), (Bv x109), (Sv r121), (Sv ⟨#[]⟩), (Sv ⟨#[]⟩), (Sv ⟨#[]⟩), Zs, Zs, Zs, Zs] rfl sz9 rfl rfl rfl rfl rfl (by kernel_rfl)) rfl ?_)))
 rintro _ _ _ - ⟨rfl, rfl⟩
 refine Pu (pt g30 11) (Fa fo58_11 hs112_3 rfl) rfl (We (Es (Sv r128) [(Iv r23), (Iv r53), (Iv r60), (Iv r67), (Iv r74), (Iv r81), (Iv r88), (Iv r95), (Iv r102), (Bv x109), (Sv r121), (Sv r128), (Sv ⟨#[]⟩), (Sv ⟨#[]⟩), Zs, Zs, Zs, Zs] rfl sz9 rfl rfl rfl rfl rfl (by kernel_rfl)) rfl ?_)
 rintro _ _ _ - ⟨rfl, rfl⟩
 refine Pu (pt g30 12) (Fa fo58_12 hs112_3 rfl) rfl (We (Es (Sv r135) [(Iv r23), (Iv r53), (Iv r60), (Iv r67), (Iv r74), (Iv r81), (Iv r88), (Iv r95), (Iv r102), (Bv x109), (Sv r121), (Sv r128), (Sv r135), (Sv ⟨#[]⟩), Zs, Zs, Zs, Zs] rfl sz9 rfl rfl rfl rfl rfl (by kernel_rfl)) rfl ?_)
 rintro _ _ _ - ⟨rfl, rfl⟩
 refine Pu (pt g30 13) (Fa fo58_13 hs112_3 rfl) rfl (We (Es (Sv r142) [(Iv r23), (Iv r53), (Iv r60), (Iv r67), (Iv r74), (Iv r81), (Iv r88), (Iv r95), (Iv r102), (Bv x109), (Sv r121), (Sv r128), (Sv r135), (Sv r142), Zs, Zs, Zs, Zs] rfl sz9 rfl rfl rfl rfl rfl (by kernel_rfl)) rfl ?_)
 rintro _ _ _ - ⟨rfl, rfl⟩
 refine Ns (Pu (.func (.func 101) #[] #[(pt g52 0), (pt g21 0)]) (PO.makeFunc2 (args0) (args2 (asE (Value.pointer (some ⟨g52, 0, none⟩)) hs112_4) (asE (Value.pointer (some ⟨g21, 0, none⟩)) hs112_1))) rfl (Pa (.func (.func 101) #[] #[(pt g52 0), (pt g21 0)]) rfl rfl (Ns (Pm (.func (.func 101) #[] #[(pt g52 0), (pt g21 0)]) rfl rfl ?_))))
 obtain ⟨⟨r149, r150, r151⟩, hr152, h⟩ := bnd h
 refine WL.f3 (WL.f3 (WL.f3 ?_))
 have h0_0 := h0_0.mono hle147
 refine We (EO.callV3 (first := #[]) (cap := #[(pt g52 0), (pt g21 0)]) co101 rfl (f_record_Read_3_ok (2048 : Int) r47 (⟨a0.b, r143, r144⟩ : T_wire_Reader) _ _ _ _ _ h0_0 (r149, r150, r151) hr152) (argsV1 rfl rfl)) rfl ?_
 rintro _ M153 _ hle154 ⟨_, ⟨vq155, cq155, rfl, rfl, hq155⟩, rfl⟩
 refine WL.a4 (Pm (.func (.func 101) #[] #[(pt g52 0), (pt g21 0)]) rfl rfl ?_)
 obtain ⟨⟨r156, r157, r158⟩, hr159, h⟩ := bnd h
 refine Wb (Wb (Wb ?_))
 have h0_0 := h0_0.mono hle154
 refine We (EO.callV3 (first := #[]) (cap := #[(pt g52 0), (pt g21 0)]) co101 rfl (f_record_Read_3_ok (4096 : Int) r47 (⟨a0.b, r150, r151⟩ : T_wire_Reader) _ _ _ _ _ h0_0 (r156, r157, r158) hr159) (argsV1 rfl rfl)) rfl ?_
 rintro _ M160 _ hle161 ⟨_, ⟨vq162, cq162, rfl, rfl, hq162⟩, rfl⟩
 refine WL.a4 (Pm (.func (.func 101) #[] #[(pt g52 0), (pt g21 0)]) rfl rfl ?_)
 obtain ⟨⟨r163, r164, r165⟩, hr166, h⟩ := bnd h
 refine Wb (Wb (Wb ?_))
 have h0_0 := h0_0.mono hle161
 refine We (EO.callV3 (first := #[]) (cap := #[(pt g52 0), (pt g21 0)]) co101 rfl (f_record_Read_3_ok (8192 : Int) r47 (⟨a0.b, r157, r158⟩ : T_wire_Reader) _ _ _ _ _ h0_0 (r163, r164, r165) hr166) (argsV1 rfl rfl)) rfl ?_
 rintro _ M167 _ hle168 ⟨_, ⟨vq169, cq169, rfl, rfl, hq169⟩, rfl⟩
 refine WL.a4 (Pm (.func (.func 101) #[] #[(pt g52 0), (pt g21 0)]) rfl rfl ?_)
 obtain ⟨⟨r170, r171, r172⟩, hr173, h⟩ := bnd h
 refine Wb (Wb (Wb ?_))
 have h0_0 := h0_0.mono hle168
 refine We (EO.callV3 (first := #[]) (cap := #[(pt g52 0), (pt g21 0)]) co101 rfl (f_record_Read_3_ok (8192 : Int) r47 (⟨a0.b, r164, r165⟩ : T_wire_Reader) _ _ _ _ _ h0_0 (r170, r171, r172) hr173) (argsV1 rfl rfl)) rfl ?_
 rintro _ M174 _ hle175 ⟨_, ⟨vq176, cq176, rfl, rfl, hq176⟩, rfl⟩
 refine WL.a4 (Pu (pt g30 14) (Fa fo58_14 hs112_3 rfl) rfl (WL.f7 ?_))
 have hq155 := hq155.mono ((hle161.trans hle168).trans hle175)
 refine We (Es vq155 [(Iv r23), (Iv r53), (Iv r60), (Iv r67), (Iv r74), (Iv r81), (Iv r88), (Iv r95), (Iv r102), (Bv x109), (Sv r121), (Sv r128), (Sv r135), (Sv r142), vq155, Zs, Zs, Zs] hq155.cells sz56 rfl rfl (Ow hq155) rfl rfl (by kernel_rfl)) rfl ?_
 rintro _ _ _ - ⟨rfl, rfl⟩
 refine Pu (pt g30 15) (Fa fo58_15 hs112_3 rfl) rfl ?_
 have hq162 := hq162.mono (hle168.trans hle175)
 refine We (Es vq162 [(Iv r23), (Iv r53), (Iv r60), (Iv r67), (Iv r74), (Iv r81), (Iv r88), (Iv r95), (Iv r102), (Bv x109), (Sv r121), (Sv r128), (Sv r135), (Sv r142), vq155, vq162, Zs, Zs] hq162.cells sz56 rfl rfl (Ow hq162) rfl rfl (by kernel_rfl)) rfl ?_
 rintro _ _ _ - ⟨rfl, rfl⟩
 refine Pu (pt g30 16) (Fa fo58_16 hs112_3 rfl) rfl ?_
 have hq169 := hq169.mono hle175
 refine We (Es vq169 [(Iv r23), (Iv r53), (Iv r60), (Iv r67), (Iv r74), (Iv r81), (Iv r88), (Iv r95), (Iv r102), (Bv x109), (Sv r121), (Sv r128), (Sv r135), (Sv r142), vq155, vq162, vq169, Zs] hq169.cells sz56 rfl rfl (Ow hq169) rfl rfl (by kernel_rfl)) rfl ?_
 rintro _ _ _ - ⟨rfl, rfl⟩
 refine Pu (pt g30 17) (Fa fo58_17 hs112_3 rfl) rfl (We (Es vq176 [(Iv r23), (Iv r53), (Iv r60), (Iv r67), (Iv r74), (Iv r81), (Iv r88), (Iv r95), (Iv r102), (Bv x109), (Sv r121), (Sv r128), (Sv r135), (Sv r142), vq155, vq162, vq169, vq176] hq176.cells sz56 rfl rfl (Ow hq176) rfl rfl (by kernel_rfl)) rfl ?_)
 rintro _ _ _ - ⟨rfl, rfl⟩
 refine Nt ?_
 obtain ⟨x177, hj178, h⟩ := bnd h
 refine Jf (fun (x177 : GErr) ρ' M' H' => M174.le M' ∧ [(g30, .cells #[(Iv r23), (Iv r53), (Iv r60), (Iv r67), (Iv r74), (Iv r81), (Iv r88), (Iv r95), (Iv r102), (Bv x109), (Sv r121), (Sv r128), (Sv r135), (Sv r142), vq155, vq162, vq169, vq176] 58 (0, 0))] :: [(g52, .cells #[(Iv r47)] 3 (0, 0))] :: [(g0, .cells #[v0_0, (Iv r171), (GV x177)] 110 (0, 0))] :: [(g21, .cells #[(pt g0 0)] 69 (0, 0))] :: [(g22, .cells z58_.toArray 58 (0, 0))] :: cq155 :: cq162 :: cq169 :: cq176 :: F = H' ∧ ρ' 1 = (pt g21 0) ∧ ρ' 2 = (pt g22 0) ∧ ρ' 3 = (pt g30 0)) x177 ?_ ?_
 have h3178 := h
 have h := hj178
 refine Sr (Pu (pt g0 0) (Lb 3 pl69 hs112_1 rfl rfl) rfl ?_)
 obtain ⟨r179, hr180, h⟩ := bnd h
 refine Wb ?_
 have h0_0 := h0_0.mono hle175
 refine We (Cb co36 (f_wire_Reader_Err_ok (⟨a0.b, r171, r172⟩ : T_wire_Reader) _ _ _ h0_0 r179 hr180) (args1 rfl)) rfl ?_
 rintro _ M181 _ hle182 ⟨_, ⟨rfl, rfl⟩, rfl⟩
 refine WL.a1 (Pu (Bv r179.isNil) (PO.errNil Tryz.underlying31 rfl) rfl (Nt (Cd (b := r179.isNil) rfl (fun hb184 => ?_) (fun hb184 => ?_))))
 have h := ite_t hb184 h
 refine Sr (Pu (.agg #[(Iv r23), (Iv r53), (Iv r60), (Iv r67), (Iv r74), (Iv r81), (Iv r88), (Iv r95), (Iv r102), (Bv x109), (Sv r121), (Sv r128), (Sv r135), (Sv r142), vq155, vq162, vq169, vq176]) (La (cs := [(Iv r23), (Iv r53), (Iv r60), (Iv r67), (Iv r74), (Iv r81), (Iv r88), (Iv r95), (Iv r102), (Bv x109), (Sv r121), (Sv r128), (Sv r135), (Sv r142), vq155, vq162, vq169, vq176]) 1 ag58 sz58 hs112_3 rfl rfl) rfl ?_)
 obtain ⟨r185, hr186, h⟩ := bnd h
 refine WL.f4 (WL.f5 (WL.f6 (WL.f7 ?_)))
 have hq155 := hq155.mono hle182
 have hq162 := hq162.mono hle182
 have hq169 := hq169.mono hle182
 have hq176 := hq176.mono hle182
 refine We (EO.call4 co77 (Tri.lend hq155.excl fun w0_ H0_ hs0_ => (Tri.lend hq162.excl fun w1_ H1_ hs1_ => (Tri.lend hq169.excl fun w2_ H2_ hs2_ => (Tri.lend hq176.excl fun w3_ H3_ hs3_ => (f_record_Check_ok (⟨r23, r53, r60, r67, r74, r81, r88, r95, r102, x109, r121, r128, r135, r142, r149, r156, r163, r170⟩ : T_api_Record) _ _ _ _ _ ((((hq155.rs hs0_).mono (IM.le_add _ _)).mono (IM.le_add _ _)).mono (IM.le_add _ _)) ((((hq162.mono (IM.le_add _ _)).rs hs1_).mono (IM.le_add _ _)).mono (IM.le_add _ _)) ((((hq169.mono (IM.le_add _ _)).mono (IM.le_add _ _)).rs hs2_).mono (IM.le_add _ _)) ((((hq176.mono (IM.le_add _ _)).mono (IM.le_add _ _)).mono (IM.le_add _ _)).rs hs3_) r185 hr186))))) (args1 rfl)) rfl ?_
 rintro _ _ _ hle188 ⟨_, ⟨Ml199, Hl200, hll201, rfl, rfl, ⟨Ml196, Hl197, hll198, rfl, rfl, ⟨Ml193, Hl194, hll195, rfl, rfl, ⟨Ml190, Hl191, hll192, rfl, rfl, ⟨rfl, rfl⟩⟩⟩⟩⟩, rfl⟩
 refine WL.a4 (Pa (GV r185) rfl rfl (Ns (Pm (GV r185) rfl rfl (Pu (Bv (!r185.isNil)) (PO.errNotNil Tryz.underlying31 rfl) rfl (Nt (Cd (b := !r185.isNil) rfl (fun hb202 => ?_) (fun hb202 => ?_)))))))
 have h := ite_t hb202 h
 refine WC.draw [0, 0, 2, 7] (.pure 0 (.pure 1 (.alt 2 (.alt 3 .done .none) .none))) mixed (by kernel_rfl) (Tp (pt g0 0) rfl (Lb 7 pl69 hs112_1 rfl rfl) rfl (Tp (GV r185) rfl (Mv rfl) rfl ?_))
 obtain ⟨r203, hr204, h⟩ := bnd h
 have hE := hE.mono (((((((((((((((((((((hle28.trans hle32).trans hle50).trans hle58).trans hle65).trans hle72).trans hle79).trans hle86).trans hle93).trans hle100).trans hle107).trans hle112).trans hle126).trans hle133).trans hle140).trans hle147).trans hle154).trans hle161).trans hle168).trans hle175).trans hle182).trans hle188)
 refine Ta rfl (Ca co45 (f_fault_Of_ok r185 _ hE r203 hr204) (args1 rfl)) rfl ?_ ?_
 rintro _ M205 _ hle206 ⟨_, ⟨rfl, rfl⟩, rfl⟩
 refine ⟨(Sk 1 rfl (Ss rfl (Lb 7 pl69 hs112_1 rfl rfl) rfl trivial)), ?_⟩
 refine WT.a0 ?_
 obtain ⟨r208, hr209, h⟩ := bnd h
 refine WT.f4 ?_
 have h0_0 := h0_0.mono ((hle182.trans hle188).trans hle206)
 refine Ta rfl (Cb co71 (f_wire_Reader_Refuse_ok (⟨a0.b, r171, r172⟩ : T_wire_Reader) (⟨#[114, 101, 99, 111, 114, 100]⟩ : ByteArray) r203 _ _ _ h0_0 r208 hr209) (args3 rfl rfl rfl)) rfl ?_ ?_
 rintro _ M210 _ hle211 ⟨_, ⟨rfl, rfl⟩, rfl⟩
 refine ⟨(Sl rfl), ?_⟩
 refine WT.a1 (Ti (WQ.f4 (WQ.f4 (WQ.f4 (WQ.f4 (WQ.f8 (WQ.f8 (WQ.f6 (WQ.f8 (WQ.f8 ?_))))))))))
 obtain rfl := oi h
 exact Tj ⟨(((hle182.trans hle188).trans hle206).trans hle211), rfl, hs112_1, hs112_2, hs112_3⟩
 exact Tz
 exact Tz
 have h := ite_f hb202 h
 refine Ck (WQ.f3 (WQ.f3 (WQ.f3 (WQ.f3 (WQ.f8 (WQ.f8 (WQ.f6 (WQ.f8 (WQ.f8 ?_)))))))))
 obtain rfl := oi h
 exact Tj ⟨(hle182.trans hle188), rfl, hs112_1, hs112_2, hs112_3⟩
 have h := ite_f hb184 h
 refine Ck (WQ.f4 (WQ.f5 (WQ.f6 (WQ.f7 (WQ.f8 (WQ.f8 (WQ.f6 (WQ.f8 (WQ.f8 ?_)))))))))
 obtain rfl := oi h
 exact Tj ⟨hle182, rfl, hs112_1, hs112_2, hs112_3⟩
 rintro ρ178 M178 H178 ⟨hle178, rfl, hs178_1, hs178_2, hs178_3⟩
 refine Cs (Sr (Pu (pt g0 0) (Lb 3 pl69 hs178_1 rfl rfl) rfl ?_))
 obtain ⟨r212, hr213, h⟩ := bnd h
 refine Wb ?_
 have h0_0 := h0_0.mono (hle175.trans hle178)
 refine We (Cb co36 (f_wire_Reader_Err_ok (⟨a0.b, r171, x177⟩ : T_wire_Reader) _ _ _ h0_0 r212 hr213) (args1 rfl)) rfl ?_
 rintro _ M214 _ hle215 ⟨_, ⟨rfl, rfl⟩, rfl⟩
 refine WL.a1 (Pu (Bv (!r212.isNil)) (PO.errNotNil Tryz.underlying31 rfl) rfl (Nt (Cd (b := !r212.isNil) rfl (fun hb217 => ?_) (fun hb217 => ?_))))
 have h := ite_t hb217 h
 refine Sr (Pu (.agg z58_.toArray) (Bl (cl := z58_) ze58 fp58 Pz rfl) rfl (WL.f4 (We (Sg (v := (.agg z58_.toArray)) (vl := z58_) (arr' := z58_) rfl sz58 hs178_2 rfl (onb rfl) rfl rfl (by kernel_rfl)) rfl ?_)))
 rintro _ _ _ - ⟨rfl, rfl⟩
 refine Nt (Cr (Tr (WQ.e0 (WQ.e0 (WQ.e0 (WQ.e0 (WQ.f6 (Dr (WQ.f6 (Dr (WQ.f6 ?_)))))))))))
 refine Dr (WQ.f6 (Dr (WQ.f6 (Dr (WQ.f6 (Dr (WQ.f6 (Dr (Qa (Qb (WQ.f3 ?_)))))))))))
 exact WQ.f5 (WQ.f5 (Rd h [[(g0, .cells #[v0_0, (Iv r171), (GV x177)] 110 (0, 0))], [], [], [], []] (fun _ hs => hs.drop) (resultsL1 rfl (Rc (cs := z58_) 0 ag58 sz58 hs178_2 rfl rfl)) (((((((((((((((((((((hle28.trans hle32).trans hle50).trans hle58).trans hle65).trans hle72).trans hle79).trans hle86).trans hle93).trans hle100).trans hle107).trans hle112).trans hle126).trans hle133).trans hle140).trans hle147).trans hle154).trans hle161).trans hle168).trans hle175).trans hle178).trans hle215) ⟨Zs, [], Zs, [], Zs, [], Zs, [], rfl, rfl, (OwnS.nil _ _), (OwnS.nil _ _), (OwnS.nil _ _), (OwnS.nil _ _)⟩))
 have h := ite_f hb217 h
 refine Ck (Tc (Sr (Pu (.agg #[(Iv r23), (Iv r53), (Iv r60), (Iv r67), (Iv r74), (Iv r81), (Iv r88), (Iv r95), (Iv r102), (Bv x109), (Sv r121), (Sv r128), (Sv r135), (Sv r142), vq155, vq162, vq169, vq176]) (La (cs := [(Iv r23), (Iv r53), (Iv r60), (Iv r67), (Iv r74), (Iv r81), (Iv r88), (Iv r95), (Iv r102), (Bv x109), (Sv r121), (Sv r128), (Sv r135), (Sv r142), vq155, vq162, vq169, vq176]) 1 ag58 sz58 hs178_3 rfl rfl) rfl (WL.f4 ?_))))
 have hq155 := hq155.mono (hle178.trans hle215)
 have hq162 := hq162.mono (hle178.trans hle215)
 have hq169 := hq169.mono (hle178.trans hle215)
 have hq176 := hq176.mono (hle178.trans hle215)
 refine We (Sg (v := (.agg #[(Iv r23), (Iv r53), (Iv r60), (Iv r67), (Iv r74), (Iv r81), (Iv r88), (Iv r95), (Iv r102), (Bv x109), (Sv r121), (Sv r128), (Sv r135), (Sv r142), vq155, vq162, vq169, vq176])) (vl := [(Iv r23), (Iv r53), (Iv r60), (Iv r67), (Iv r74), (Iv r81), (Iv r88), (Iv r95), (Iv r102), (Bv x109), (Sv r121), (Sv r128), (Sv r135), (Sv r142), vq155, vq162, vq169, vq176]) (arr' := [(Iv r23), (Iv r53), (Iv r60), (Iv r67), (Iv r74), (Iv r81), (Iv r88), (Iv r95), (Iv r102), (Bv x109), (Sv r121), (Sv r128), (Sv r135), (Sv r142), vq155, vq162, vq169, vq176]) rfl sz58 hs178_2 rfl (onesOf (Oc rfl (Oc rfl (Oc rfl (Oc rfl (Oc rfl (Oc rfl (Oc rfl (Oc rfl (Oc rfl (Oc rfl (Oc rfl (Oc rfl (Oc rfl (Oc rfl (Oc (Ow hq155) (Oc (Ow hq162) (Oc (Ow hq169) (Oc (Ow hq176) Oz))))))))))))))))))) rfl rfl (by kernel_rfl)) rfl ?_
 rintro _ _ _ - ⟨rfl, rfl⟩
 exact Nt (Cr (Qb (Dr (Qb (Dr (Qb (Dr (Rd h [[(g0, .cells #[v0_0, (Iv r171), (GV x177)] 110 (0, 0))], cq155, cq162, cq169, cq176] (fun _ hs => hs.drop) (resultsL1 rfl (Rc (cs := [(Iv r23), (Iv r53), (Iv r60), (Iv r67), (Iv r74), (Iv r81), (Iv r88), (Iv r95), (Iv r102), (Bv x109), (Sv r121), (Sv r128), (Sv r135), (Sv r142), vq155, vq162, vq169, vq176]) 0 ag58 sz58 hs178_2 rfl rfl)) (((((((((((((((((((((hle28.trans hle32).trans hle50).trans hle58).trans hle65).trans hle72).trans hle79).trans hle86).trans hle93).trans hle100).trans hle107).trans hle112).trans hle126).trans hle133).trans hle140).trans hle147).trans hle154).trans hle161).trans hle168).trans hle175).trans hle178).trans hle215) ⟨vq155, cq155, vq162, cq162, vq169, cq169, vq176, cq176, rfl, rfl, hq155, hq162, hq169, hq176⟩))))))))


end Go.Proofs.YtkflneabcannnaaGreatDoor.G
