/- Go functions: what they come to, and that they do. Printed by a program of the session (gen). -/
import Derived.Test.YtkflneabcannnaaGreatDoorOF
import Derived.Test.YtkflneabcannnaaGreatDoorO4
import Derived.Test.YtkflneabcannnaaGreatDoorKConv
import Derived.Test.YtkflneabcannnaaGreatDoorKShar2
import Derived.Test.YtkflneabcannnaaGreatDoorKFld
import Derived.Test.YtkflneabcannnaaGreatDoorKTight2
set_option linter.unusedVariables false
set_option linter.unusedSimpArgs false
set_option maxHeartbeats 8000000
set_option maxRecDepth 100000
namespace Go.Proofs.YtkflneabcannnaaGreatDoor.G
open Go Go.KK

noncomputable def f_wire_Reader_Flag (a0 : T_wire_Reader) : Option (Bool × Int × GErr) :=
  (((if (!a0.err.isNil) = true then (some (Sum.inl a0.err)) else (if (decide ((a0.b.length : Int) ≤ a0.at_)) = true then ((f_wire_Reader_fail a0 (⟨#[102, 108, 97, 103]⟩ : ByteArray) a0.at_ (3 : Int)).bind fun r25 => (some (Sum.inl r25))) else (grd (0 ≤ a0.at_ ∧ a0.at_ < a0.b.length) (if (decide ((1 : Int) < (rd a0.b a0.at_))) = true then ((f_wire_Reader_fail a0 (⟨#[102, 108, 97, 103]⟩ : ByteArray) a0.at_ (5 : Int)).bind fun r37 => (some (Sum.inl r37))) else (grd (0 ≤ IntKind.i64.wrap ((IntKind.i64.wrap (a0.at_ + (1 : Int))) - (1 : Int)) ∧ IntKind.i64.wrap ((IntKind.i64.wrap (a0.at_ + (1 : Int))) - (1 : Int)) < a0.b.length) (((some (decide ((rd a0.b (IntKind.i64.wrap ((IntKind.i64.wrap (a0.at_ + (1 : Int))) - (1 : Int)))) = (1 : Int)), IntKind.i64.wrap (a0.at_ + (1 : Int)), a0.err))).bind fun r => some (Sum.inr r))))))) : Option (GErr ⊕ (Bool × Int × GErr))).bind (Sum.elim (fun (x21 : GErr) => (some (false, a0.at_, x21))) some))
def f_wire_Reader_Flag_post (a0 : T_wire_Reader) (v0_0 : Value) (g0 : Nat) : (Bool × Int × GErr) → Value → IM → HL → Prop :=
  fun (p_ : (Bool × Int × GErr)) (v : Value) (M' : IM) (H' : HL) => match p_ with | (r0, r1, r2) => (.bool r0) = v ∧ H' = [[(g0, .cells #[v0_0, (.int .i64 r1), (GV r2)] 110 (0, 0))]]
theorem f_wire_Reader_Flag_ok (a0 : T_wire_Reader) (M : IM) (v0_0 : Value) (g0 : Nat) (h0_0 : RS (Kd.int .u8) M v0_0 a0.b) (res : (Bool × Int × GErr)) (h : f_wire_Reader_Flag a0 = some res) :
    Tri Tryz.prog 34 #[(pt g0 0)] M [[(g0, .cells #[v0_0, (Iv a0.at_), (GV a0.err)] 110 (0, 0))]] (f_wire_Reader_Flag_post a0 v0_0 g0 res) := by
 unfold f_wire_Reader_Flag at h
 refine Te Tryz.func34 rfl rfl ?_
 intro F ρ hρ
 refine Sr (qa (Bv false) (Nt ?_))
 obtain ⟨j22, hj22, h⟩ := bnd h
 refine WC.joinE (fun (x21 : GErr) ρ' M' H' => M.le M' ∧ [(g0, .cells #[v0_0, (Iv a0.at_), (GV x21)] 110 (0, 0))] :: F = H') j22 ?_ ?_
 have h322 := h
 have h := hj22
 refine Bk (Sr (qM (pt g0 0) (hρ 0) (qu (pt g0 0) (Nk rfl) (qu (pt g0 2) (Fa fo110_2 rfl rfl) (qu (GV a0.err) (Lb 0 pl31 rfl rfl rfl) (qu (Bv (!a0.err.isNil)) (PO.errNotNil Tryz.underlying31 rfl) (qa (Bv (!a0.err.isNil)) (Nt (Cd (b := !a0.err.isNil) rfl (fun hb23 => ?_) (fun hb23 => ?_))))))))))
 have h := ite_t hb23 h
 exact Ck (Bn (WQ.thenFE h ⟨lr, rfl⟩))
 have h := ite_f hb23 h
 refine Cs (WC.draw [0, 1, 3, 7, 0, 16, 48, 112, 240, 511, 1023] (.pure 0 (.pure 1 (.pure 2 (.pure 3 (.pure 4 (.pure 5 (.pure 6 (.pure 7 (.pure 8 (.pure 9 (.pure 10 .done))))))))))) mixed (by kernel_rfl) (qt (pt g0 0) rfl (Mv (hρ 0)) (qt (pt g0 0) rfl (Nk rfl) (qt (pt g0 1) rfl (Fa fo110_1 rfl rfl) (qt (Iv a0.at_) rfl (Lb 0 pl3 rfl rfl rfl) (qt (pt g0 0) rfl (Mv (hρ 0)) (qt (pt g0 0) rfl (Nk rfl) (qt (pt g0 0) rfl (Fa fo110_0 rfl rfl) (qt v0_0 rfl (Lb 0 pl23 rfl rfl rfl) (qt (Iv (a0.b.length : Int)) rfl (PO.lenS Tryz.underlying23 rfl h0_0.len) (qt (Bv (decide ((a0.b.length : Int) ≤ a0.at_))) rfl (PO.geq rfl rfl) ?_)))))))))))
 refine qt (Bv (decide ((a0.b.length : Int) ≤ a0.at_))) rfl (Ag rfl) (Ti (Tc (Cd (b := decide ((a0.b.length : Int) ≤ a0.at_)) rfl (fun hb24 => ?_) (fun hb24 => ?_))))
 have h := ite_t hb24 h
 refine Cg (qM (pt g0 0) (hρ 0) (qM (pt g0 0) (hρ 0) (qu (pt g0 0) (Nk rfl) (qu (pt g0 1) (Fa fo110_1 rfl rfl) (qu (Iv a0.at_) (Lb 0 pl3 rfl rfl rfl) ?_)))))
 obtain ⟨r25, hr26, h⟩ := bnd h
 refine We (Cb co69 (f_wire_Reader_fail_ok a0 (⟨#[102, 108, 97, 103]⟩ : ByteArray) a0.at_ (3 : Int) _ _ _ h0_0 r25 hr26) (args4 rfl rfl rfl rfl)) rfl ?_
 rintro _ M27 _ hle28 ⟨_, ⟨rfl, rfl⟩, rfl⟩
 exact WL.a1 (Wz (Bn (WQ.thenFE h ⟨hle28, rfl⟩)))
 have h := ite_f hb24 h
 refine Cs (WC.draw [0, 1, 3, 7, 0, 16, 48, 112, 255, 511, 1023, 2047] (.pure 0 (.pure 1 (.pure 2 (.pure 3 (.pure 4 (.pure 5 (.pure 6 (.pure 7 (.pure 8 (.pure 9 (.pure 10 (.pure 11 .done)))))))))))) mixed (by kernel_rfl) (qt (pt g0 0) rfl (Mv (hρ 0)) (qt (pt g0 0) rfl (Nk rfl) (qt (pt g0 0) rfl (Fa fo110_0 rfl rfl) (qt v0_0 rfl (Lb 0 pl23 rfl rfl rfl) (qt (pt g0 0) rfl (Mv (hρ 0)) (qt (pt g0 0) rfl (Nk rfl) (qt (pt g0 1) rfl (Fa fo110_1 rfl rfl) (qt (Iv a0.at_) rfl (Lb 0 pl3 rfl rfl rfl) ?_)))))))))
 obtain ⟨hg29, h⟩ := grd_i h
 obtain ⟨p30, cs31, hat32, hrc33, hhas34⟩ := h0_0.at hg29.1 hg29.2 (by decide)
 obtain rfl := hrc33
 refine qt (.pointer (some p30)) rfl (PO.indexAddr (n := a0.b.length) Tryz.underlying23 sz5 rfl rfl hg29.1 hg29.2 hat32) (qt (Yv (rd a0.b a0.at_)) rfl (PO.loadM pl5 rfl (IM.has0 hhas34)) (qt (Bv (decide ((1 : Int) < (rd a0.b a0.at_)))) rfl (PO.gtr rfl rfl) (qt (Bv (decide ((1 : Int) < (rd a0.b a0.at_)))) rfl (Ag rfl) (Ti (Tc (Cd (b := decide ((1 : Int) < (rd a0.b a0.at_))) rfl (fun hb36 => ?_) (fun hb36 => ?_)))))))
 have h := ite_t hb36 h
 refine Cg (qM (pt g0 0) (hρ 0) (qM (pt g0 0) (hρ 0) (qu (pt g0 0) (Nk rfl) (qu (pt g0 1) (Fa fo110_1 rfl rfl) (qu (Iv a0.at_) (Lb 0 pl3 rfl rfl rfl) ?_)))))
 obtain ⟨r37, hr38, h⟩ := bnd h
 refine We (Cb co69 (f_wire_Reader_fail_ok a0 (⟨#[102, 108, 97, 103]⟩ : ByteArray) a0.at_ (5 : Int) _ _ _ h0_0 r37 hr38) (args4 rfl rfl rfl rfl)) rfl ?_
 rintro _ M39 _ hle40 ⟨_, ⟨rfl, rfl⟩, rfl⟩
 exact WL.a1 (Wz (Bn (WQ.thenFE h ⟨hle40, rfl⟩)))
 have h := ite_f hb36 h
 refine Sr (qM (pt g0 0) (hρ 0) (qu (pt g0 0) (Nk rfl) (qu (pt g0 1) (Fa fo110_1 rfl rfl) (qu (Iv a0.at_) (Lb 0 pl3 rfl rfl rfl) (qu (Iv (IntKind.i64.wrap (a0.at_ + 1))) (PO.add rfl rfl) (qu (pt g0 0) (Nk rfl) (qu (pt g0 1) (Fa fo110_1 rfl rfl) (We (Es (Iv (IntKind.i64.wrap (a0.at_ + 1))) [v0_0, (Iv (IntKind.i64.wrap (a0.at_ + 1))), (GV a0.err)] rfl sz3 rfl rfl rfl rfl rfl rfl) rfl ?_))))))))
 rintro _ _ _ - ⟨rfl, rfl⟩
 refine Nt (Cs (WC.draw [0, 1, 3, 7, 0, 16, 48, 112, 240, 511, 1023, 2047, 4095] (.pure 0 (.pure 1 (.pure 2 (.pure 3 (.pure 4 (.pure 5 (.pure 6 (.pure 7 (.pure 8 (.pure 9 (.pure 10 (.pure 11 (.pure 12 .done))))))))))))) mixed (by kernel_rfl) (qt (pt g0 0) rfl (Mv (hρ 0)) (qt (pt g0 0) rfl (Nk rfl) (qt (pt g0 0) rfl (Fa fo110_0 rfl rfl) (qt v0_0 rfl (Lb 0 pl23 rfl rfl rfl) (qt (pt g0 0) rfl (Mv (hρ 0)) (qt (pt g0 0) rfl (Nk rfl) (qt (pt g0 1) rfl (Fa fo110_1 rfl rfl) (qt (Iv (IntKind.i64.wrap (a0.at_ + 1))) rfl (Lb 0 pl3 rfl rfl rfl) (qt (Iv (IntKind.i64.wrap ((IntKind.i64.wrap (a0.at_ + 1)) - 1))) rfl (PO.sub rfl rfl) ?_)))))))))))
 obtain ⟨hg41, h⟩ := grd_i h
 obtain ⟨p42, cs43, hat44, hrc45, hhas46⟩ := h0_0.at hg41.1 hg41.2 (by decide)
 obtain rfl := hrc45
 refine qt (.pointer (some p42)) rfl (PO.indexAddr (n := a0.b.length) Tryz.underlying23 sz5 rfl rfl hg41.1 hg41.2 hat44) (qt (Yv (rd a0.b (IntKind.i64.wrap ((IntKind.i64.wrap (a0.at_ + 1)) - 1)))) rfl (PO.loadM pl5 rfl (IM.has0 hhas46)) (qt (Bv (decide ((rd a0.b (IntKind.i64.wrap ((IntKind.i64.wrap (a0.at_ + 1)) - 1))) = 1))) rfl (PO.eql rfl rfl) (qt (Bv (decide ((rd a0.b (IntKind.i64.wrap ((IntKind.i64.wrap (a0.at_ + 1)) - 1))) = 1))) rfl (Ag rfl) (Ti (Tc (Cr (Br (Tr ?_))))))))
 have h := KK.early h h322
 exact Rf h [[(g0, .cells #[v0_0, (Iv (IntKind.i64.wrap (a0.at_ + 1))), (GV a0.err)] 110 (0, 0))]] rfl (Rs rfl rfl) lr ⟨rfl, rfl⟩
 rintro x21 ρ22 M22 H22 rfl ⟨hle22, rfl⟩
 have h := (Sum.elim_inl _ _ _).symm.trans h
 exact Sr (qa (Bv false) (Nt (Cr (Rf h [[(g0, .cells #[v0_0, (Iv a0.at_), (GV x21)] 110 (0, 0))]] rfl (Rs rfl rfl) hle22 ⟨rfl, rfl⟩))))

noncomputable def f_rpc_Read_1 (a0 : Int) (a1 : Int) (a2q : T_wire_Reader) : Option (Int × Int × GErr) :=
  (if (decide ((andI .i64 a1 a0) = (0 : Int))) = true then (some ((0 : Int), a2q.at_, a2q.err)) else ((f_wire_Reader_Int a2q (1073741824 : Int)).bind fun (r22, r23, r24) => (some (r22, r23, r24))))
def f_rpc_Read_1_post (a0 : Int) (a1 : Int) (a2q : T_wire_Reader) (v2q_0 : Value) (g1 g2 g2q : Nat) : (Int × Int × GErr) → Value → IM → HL → Prop :=
  fun (p_ : (Int × Int × GErr)) (v : Value) (M' : IM) (H' : HL) => match p_ with | (r0, r1, r2) => (.int .i64 r0) = v ∧ H' = [[(g1, .cells #[(.int .i64 a1)] 3 (0, 0))], [(g2q, .cells #[v2q_0, (.int .i64 r1), (GV r2)] 110 (0, 0))], [(g2, .cells #[(.pointer (some ⟨g2q, 0, none⟩))] 69 (0, 0))]]
theorem f_rpc_Read_1_ok (a0 : Int) (a1 : Int) (a2q : T_wire_Reader) (M : IM) (v2q_0 : Value) (g1 g2 g2q : Nat) (h2q_0 : RS (Kd.int .u8) M v2q_0 a2q.b) (res : (Int × Int × GErr)) (h : f_rpc_Read_1 a0 a1 a2q = some res) :
    Tri Tryz.prog 33 #[(Iv a0), (pt g1 0), (pt g2 0)] M [[(g1, .cells #[(Iv a1)] 3 (0, 0))], [(g2q, .cells #[v2q_0, (Iv a2q.at_), (GV a2q.err)] 110 (0, 0))], [(g2, .cells #[(pt g2q 0)] 69 (0, 0))]] (f_rpc_Read_1_post a0 a1 a2q v2q_0 g1 g2 g2q res) := by
 unfold f_rpc_Read_1 at h
 refine Te Tryz.func33 rfl rfl ?_
 intro F ρ hρ
 refine Sr (qa (Iv 0) (Nt (Cs (Sr (qu (Iv a1) (Lb 0 pl3 (hρ 1) rfl rfl) (qM (Iv a0) (hρ 0) (qu (Iv (andI .i64 a1 a0)) (PO.and rfl rfl) (qu (Bv (decide ((andI .i64 a1 a0) = 0))) (PO.eql rfl rfl) (Nt (Cd (b := decide ((andI .i64 a1 a0) = 0)) rfl (fun hb21 => ?_) (fun hb21 => ?_)))))))))))
 have h := ite_t hb21 h
 exact Sr (qa (Iv 0) (Nt (Cr (Tr (Rf h [[(g1, .cells #[(Iv a1)] 3 (0, 0))], [(g2q, .cells #[v2q_0, (Iv a2q.at_), (GV a2q.err)] 110 (0, 0))], [(g2, .cells #[(pt g2q 0)] 69 (0, 0))]] rfl (Rs rfl rfl) lr ⟨rfl, rfl⟩)))))
 have h := ite_f hb21 h
 refine Ck (Tc (Sr (qu (pt g2q 0) (Lb 2 pl69 (hρ 2) rfl rfl) ?_)))
 obtain ⟨⟨r22, r23, r24⟩, hr25, h⟩ := bnd h
 refine WL.f1 (We (Cb co32 (f_wire_Reader_Int_ok a2q (1073741824 : Int) _ _ _ h2q_0 (r22, r23, r24) hr25) (args2 rfl rfl)) rfl ?_)
 rintro _ M26 _ hle27 ⟨_, ⟨rfl, rfl⟩, rfl⟩
 exact WL.a1 (qa (Iv r22) (Nt (Cr (Qb (Qa (Qb (Rf h [[(g1, .cells #[(Iv a1)] 3 (0, 0))], [(g2q, .cells #[v2q_0, (Iv r23), (GV r24)] 110 (0, 0))], [(g2, .cells #[(pt g2q 0)] 69 (0, 0))]] rfl (Rs rfl rfl) hle27 ⟨rfl, rfl⟩)))))))

noncomputable def f_slices_Clone_byte_byte (a0 : (List Int)) : Option (List Int) :=
  (grd (([] : List Int).length + a0.length ≤ 274877906944) (some (([] : List Int) ++ a0)))
def f_slices_Clone_byte_byte_post (a0 : (List Int)) (v0 : Value) : (List Int) → Value → IM → HL → Prop :=
  fun (r0 : (List Int)) (v : Value) (M' : IM) (H' : HL) => ∃ vz0 cz0, vz0 = v ∧ H' = [cz0] ∧ OwnS (Kd.int .u8) M' vz0 r0 cz0
theorem f_slices_Clone_byte_byte_ok (a0 : (List Int)) (M : IM) (v0 : Value) (h0 : RS (Kd.int .u8) M v0 a0) (res : (List Int)) (h : f_slices_Clone_byte_byte a0 = some res) :
    Tri Tryz.prog 54 #[v0] M [] (f_slices_Clone_byte_byte_post a0 v0 res) := by
 unfold f_slices_Clone_byte_byte at h
 refine Te Tryz.func54 rfl rfl ?_
 intro F ρ hρ
 refine Sr (qa Zs (Nt (Cs (Sr (qM v0 (hρ 0) (qu (Bv (nilS v0)) (PO.sliceNil Tryz.underlying23 rfl h0.len rfl) (Nt (Cd (b := nilS v0) rfl (fun hb21 => ?_) (fun hb21 => ?_)))))))))
 obtain rfl := h0.nilxs (by decide) hb21
 have h := Eq.trans (a := ((some []) : Option (List Int))) (by simp [grd]) h
 exact Sr (qa Zs (Nt (Cr (Tr (WQ.e0 (Rf h [[]] rfl (Rs rfl rfl) lr ⟨Zs, [], rfl, rfl, (OwnS.nil _ _)⟩))))))
 refine Ck (Tc (Sr (We (EO.buildSliceL (cl := []) Tryz.underlying23 iz5 rfl Pz rfl) rfl ?_)))
 rintro _ _ _ - ⟨rfl, g23, rfl, rfl⟩
 have h25 : OwnS (Kd.int .u8) M (.slice (some ⟨g23, 0, none⟩) 0 0) [] [(g23, .cells #[] 5 (0, 0))] := OwnS.rows (css := []) Rows.nil rfl rfl
 refine qM v0 (hρ 0) ?_
 obtain ⟨hg29, h⟩ := grd_i h
 refine We (EO.append (dd := (Kd.int .u8)) (xs := []) (ys := a0) Tryz.underlying23 Tryz.underlying23 in5 rfl (appB (by decide) hg29) (by decide) rfl rfl h25 (h0.src _)) rfl ?_
 rintro v28 _ _ - ⟨rfl, c26, rfl, h27⟩
 exact qa v28 (Nt (Cr (Rf h [c26] rfl (Rs rfl rfl) lr ⟨v28, c26, rfl, rfl, h27⟩)))

noncomputable def f_wire_Reader_Text (a0 : T_wire_Reader) (a1 : Int) : Option ((List Int) × Int × GErr) :=
  ((f_wire_Reader_Int a0 a1).bind fun (r21, r22, r23) => (if (!r23.isNil) = true then (some ([], r22, r23)) else (if (decide ((IntKind.i64.wrap ((a0.b.length : Int) - r22)) < r21)) = true then ((f_wire_Reader_fail (⟨a0.b, a0.at_, r23⟩ : T_wire_Reader) (⟨#[116, 101, 120, 116]⟩ : ByteArray) a0.at_ (3 : Int)).bind fun r31 => (some ([], a0.at_, r31))) else (grd (0 ≤ IntKind.i64.wrap ((IntKind.i64.wrap (r22 + r21)) - r21) ∧ IntKind.i64.wrap ((IntKind.i64.wrap (r22 + r21)) - r21) ≤ IntKind.i64.wrap (r22 + r21) ∧ IntKind.i64.wrap (r22 + r21) ≤ (a0.b.length : Int)) ((f_slices_Clone_byte_byte (sub a0.b (IntKind.i64.wrap ((IntKind.i64.wrap (r22 + r21)) - r21)) (IntKind.i64.wrap (r22 + r21)))).bind fun r38 => (some (r38, IntKind.i64.wrap (r22 + r21), r23)))))))
def f_wire_Reader_Text_post (a0 : T_wire_Reader) (a1 : Int) (v0_0 : Value) (g0 : Nat) : ((List Int) × Int × GErr) → Value → IM → HL → Prop :=
  fun (p_ : ((List Int) × Int × GErr)) (v : Value) (M' : IM) (H' : HL) => match p_ with | (r0, r1, r2) => ∃ vz0 cz0, vz0 = v ∧ H' = [[(g0, .cells #[v0_0, (.int .i64 r1), (GV r2)] 110 (0, 0))], cz0] ∧ OwnS (Kd.int .u8) M' vz0 r0 cz0
theorem f_wire_Reader_Text_ok (a0 : T_wire_Reader) (a1 : Int) (M : IM) (v0_0 : Value) (g0 : Nat) (h0_0 : RS (Kd.int .u8) M v0_0 a0.b) (res : ((List Int) × Int × GErr)) (h : f_wire_Reader_Text a0 a1 = some res) :
    Tri Tryz.prog 35 #[(pt g0 0), (Iv a1)] M [[(g0, .cells #[v0_0, (Iv a0.at_), (GV a0.err)] 110 (0, 0))]] (f_wire_Reader_Text_post a0 a1 v0_0 g0 res) := by
 unfold f_wire_Reader_Text at h
 refine Te Tryz.func35 rfl rfl ?_
 intro F ρ hρ
 refine Sr (qa Zs (Ns (qM (pt g0 0) (hρ 0) (qu (pt g0 0) (Nk rfl) (qu (pt g0 1) (Fa fo110_1 rfl rfl) (qu (Iv a0.at_) (Lb 0 pl3 rfl rfl rfl) (qa (Iv a0.at_) (Ns (qM (pt g0 0) (hρ 0) (qM (Iv a1) (hρ 1) ?_))))))))))
 obtain ⟨⟨r21, r22, r23⟩, hr24, h⟩ := bnd h
 refine We (Cb co32 (f_wire_Reader_Int_ok a0 a1 _ _ _ h0_0 (r21, r22, r23) hr24) (args2 rfl rfl)) rfl ?_
 rintro _ M25 _ hle26 ⟨_, ⟨rfl, rfl⟩, rfl⟩
 refine WL.a1 (qa (Iv r21) (Nt (Cs (Sr (qM (pt g0 0) (hρ 0) (qu (pt g0 0) (Nk rfl) (qu (pt g0 2) (Fa fo110_2 rfl rfl) (qu (GV r23) (Lb 0 pl31 rfl rfl rfl) (qu (Bv (!r23.isNil)) (PO.errNotNil Tryz.underlying31 rfl) (Nt (Cd (b := !r23.isNil) rfl (fun hb28 => ?_) (fun hb28 => ?_))))))))))))
 have h := ite_t hb28 h
 exact Sr (qa Zs (Nt (Cr (Tr (WQ.e0 (Qa (Rf h [[(g0, .cells #[v0_0, (Iv r22), (GV r23)] 110 (0, 0))], []] rfl (Rs rfl rfl) hle26 ⟨Zs, [], rfl, rfl, (OwnS.nil _ _)⟩)))))))
 have h := ite_f hb28 h
 refine Ck (Tc (Cs (Cs (WC.draw [0, 0, 2, 6, 14, 30, 0, 64, 192, 448, 1022, 2047] (.pure 0 (.pure 1 (.pure 2 (.pure 3 (.pure 4 (.pure 5 (.pure 6 (.pure 7 (.pure 8 (.pure 9 (.pure 10 (.pure 11 .done)))))))))))) mixed (by kernel_rfl) (qt (Iv r21) rfl (Mv rfl) (qt (pt g0 0) rfl (Mv (hρ 0)) (qt (pt g0 0) rfl (Nk rfl) (qt (pt g0 0) rfl (Fa fo110_0 rfl rfl) (qt v0_0 rfl (Lb 0 pl23 rfl rfl rfl) ?_)))))))))
 have h0_0 := h0_0.mono hle26
 refine qt (Iv (a0.b.length : Int)) rfl (PO.lenS Tryz.underlying23 rfl h0_0.len) (qt (pt g0 0) rfl (Mv (hρ 0)) (qt (pt g0 0) rfl (Nk rfl) (qt (pt g0 1) rfl (Fa fo110_1 rfl rfl) (qt (Iv r22) rfl (Lb 0 pl3 rfl rfl rfl) (qt (Iv (IntKind.i64.wrap ((a0.b.length : Int) - r22))) rfl (PO.sub rfl rfl) (qt (Bv (decide ((IntKind.i64.wrap ((a0.b.length : Int) - r22)) < r21))) rfl (PO.gtr rfl rfl) (Ti (Tc (Cd (b := decide ((IntKind.i64.wrap ((a0.b.length : Int) - r22)) < r21)) rfl (fun hb30 => ?_) (fun hb30 => ?_))))))))))
 have h := ite_t hb30 h
 refine Sr (qM (pt g0 0) (hρ 0) (qm (Iv a0.at_) (qu (pt g0 0) (Nk rfl) (qu (pt g0 1) (Fa fo110_1 rfl rfl) (We (Es (Iv a0.at_) [v0_0, (Iv a0.at_), (GV r23)] rfl sz3 rfl rfl rfl rfl rfl rfl) rfl ?_)))))
 rintro _ _ _ - ⟨rfl, rfl⟩
 refine Ns (qM (pt g0 0) (hρ 0) (qm (Iv a0.at_) ?_))
 obtain ⟨r31, hr32, h⟩ := bnd h
 refine We (Cb co69 (f_wire_Reader_fail_ok (⟨a0.b, a0.at_, r23⟩ : T_wire_Reader) (⟨#[116, 101, 120, 116]⟩ : ByteArray) a0.at_ (3 : Int) _ _ _ h0_0 r31 hr32) (args4 rfl rfl rfl rfl)) rfl ?_
 rintro _ M33 _ hle34 ⟨_, ⟨rfl, rfl⟩, rfl⟩
 exact WL.a1 (Ns (qa Zs (Nt (Cr (Tr (WQ.e0 (Qa (Rf h [[(g0, .cells #[v0_0, (Iv a0.at_), (GV r31)] 110 (0, 0))], []] rfl (Rs rfl rfl) (hle26.trans hle34) ⟨Zs, [], rfl, rfl, (OwnS.nil _ _)⟩))))))))
 have h := ite_f hb30 h
 refine Ck (Tc (Sr (qM (pt g0 0) (hρ 0) (qu (pt g0 0) (Nk rfl) (qu (pt g0 1) (Fa fo110_1 rfl rfl) (qu (Iv r22) (Lb 0 pl3 rfl rfl rfl) (qm (Iv r21) (qu (Iv (IntKind.i64.wrap (r22 + r21))) (PO.add rfl rfl) (qu (pt g0 0) (Nk rfl) (qu (pt g0 1) (Fa fo110_1 rfl rfl) (We (Es (Iv (IntKind.i64.wrap (r22 + r21))) [v0_0, (Iv (IntKind.i64.wrap (r22 + r21))), (GV r23)] rfl sz3 rfl rfl rfl rfl rfl rfl) rfl ?_)))))))))))
 rintro _ _ _ - ⟨rfl, rfl⟩
 refine Nt (Cs (WC.draw [0, 1, 3, 7, 0, 16, 48, 112, 0, 496, 0, 1024, 3072, 7168, 16383, 32767, 65535] (.pure 0 (.pure 1 (.pure 2 (.pure 3 (.pure 4 (.pure 5 (.pure 6 (.pure 7 (.pure 8 (.pure 9 (.pure 10 (.pure 11 (.pure 12 (.pure 13 (.pure 14 (.alt 15 (.pure 16 .done) .none)))))))))))))))) mixed (by kernel_rfl) (qt (pt g0 0) rfl (Mv (hρ 0)) (qt (pt g0 0) rfl (Nk rfl) (qt (pt g0 0) rfl (Fa fo110_0 rfl rfl) (qt v0_0 rfl (Lb 0 pl23 rfl rfl rfl) (qt (pt g0 0) rfl (Mv (hρ 0)) (qt (pt g0 0) rfl (Nk rfl) (qt (pt g0 1) rfl (Fa fo110_1 rfl rfl) (qt (Iv (IntKind.i64.wrap (r22 + r21))) rfl (Lb 0 pl3 rfl rfl rfl) (qt (Iv r21) rfl (Mv rfl) ?_)))))))))))
 refine qt (Iv (IntKind.i64.wrap ((IntKind.i64.wrap (r22 + r21)) - r21))) rfl (PO.sub rfl rfl) (qt (pt g0 0) rfl (Mv (hρ 0)) (qt (pt g0 0) rfl (Nk rfl) (qt (pt g0 1) rfl (Fa fo110_1 rfl rfl) (qt (Iv (IntKind.i64.wrap (r22 + r21))) rfl (Lb 0 pl3 rfl rfl rfl) ?_))))
 obtain ⟨hg36, h⟩ := grd_i h
 have h37 := h0_0.sub hg36.1 hg36.2.1 hg36.2.2
 refine qt (slV v0_0 1 (IntKind.i64.wrap ((IntKind.i64.wrap (r22 + r21)) - r21)).toNat (IntKind.i64.wrap (r22 + r21)).toNat) rfl (PO.slice (n := a0.b.length) (l := (IntKind.i64.wrap ((IntKind.i64.wrap (r22 + r21)) - r21)).toNat) (h := (IntKind.i64.wrap (r22 + r21)).toNat) Tryz.underlying23 sz5 rfl h0_0.len h0_0.cap ⟨_, _, rfl, hg36.1, rfl⟩ ⟨_, _, rfl, (Int.le_trans hg36.1 hg36.2.1), rfl⟩ (Int.toNat_le_toNat hg36.2.1) (toNat_le_len hg36.2.2)) ?_
 obtain ⟨r38, hr39, h⟩ := bnd h
 refine Ta rfl (Ca co54 (f_slices_Clone_byte_byte_ok (sub a0.b (IntKind.i64.wrap ((IntKind.i64.wrap (r22 + r21)) - r21)) (IntKind.i64.wrap (r22 + r21))) _ _ h37 r38 hr39) (args1 rfl)) rfl ?_ ?_
 rintro _ M40 _ hle41 ⟨_, ⟨vq42, cq42, rfl, rfl, hq42⟩, rfl⟩
 refine ⟨(Sl rfl), ?_⟩
 exact WT.a1 (qt vq42 rfl (Ag rfl) (Ti (Tc (Cr (Qa (Rf h [[(g0, .cells #[v0_0, (Iv (IntKind.i64.wrap (r22 + r21))), (GV r23)] 110 (0, 0))], cq42] rfl (Rs rfl rfl) (hle26.trans hle41) ⟨vq42, cq42, rfl, rfl, hq42⟩))))))
 exact Tz

noncomputable def f_wire_Reader_Err (a0 : T_wire_Reader) : Option GErr :=
  (some a0.err)
def f_wire_Reader_Err_post (a0 : T_wire_Reader) (v0_0 : Value) (g0 : Nat) : GErr → Value → IM → HL → Prop :=
  fun (r0 : GErr) (v : Value) (M' : IM) (H' : HL) => (GV r0) = v ∧ H' = [[(g0, .cells #[v0_0, (.int .i64 a0.at_), (GV a0.err)] 110 (0, 0))]]
theorem f_wire_Reader_Err_ok (a0 : T_wire_Reader) (M : IM) (v0_0 : Value) (g0 : Nat) (h0_0 : RS (Kd.int .u8) M v0_0 a0.b) (res : GErr) (h : f_wire_Reader_Err a0 = some res) :
    Tri Tryz.prog 36 #[(pt g0 0)] M [[(g0, .cells #[v0_0, (Iv a0.at_), (GV a0.err)] 110 (0, 0))]] (f_wire_Reader_Err_post a0 v0_0 g0 res) := by
 unfold f_wire_Reader_Err at h
 refine Te Tryz.func36 rfl rfl ?_
 intro F ρ hρ
 exact Sr (qa (GV GErr.nil) (Ns (qM (pt g0 0) (hρ 0) (qu (pt g0 0) (Nk rfl) (qu (pt g0 2) (Fa fo110_2 rfl rfl) (qu (GV a0.err) (Lb 0 pl31 rfl rfl rfl) (qa (GV a0.err) (Nt (Cr (Rf h [[(g0, .cells #[v0_0, (Iv a0.at_), (GV a0.err)] 110 (0, 0))]] rfl (Rs rfl rfl) lr ⟨rfl, rfl⟩))))))))))

noncomputable def f_wire_Reader_At (a0 : T_wire_Reader) : Option Int :=
  (some a0.at_)
def f_wire_Reader_At_post (a0 : T_wire_Reader) (v0_0 : Value) (g0 : Nat) : Int → Value → IM → HL → Prop :=
  fun (r0 : Int) (v : Value) (M' : IM) (H' : HL) => (.int .i64 r0) = v ∧ H' = [[(g0, .cells #[v0_0, (.int .i64 a0.at_), (GV a0.err)] 110 (0, 0))]]
theorem f_wire_Reader_At_ok (a0 : T_wire_Reader) (M : IM) (v0_0 : Value) (g0 : Nat) (h0_0 : RS (Kd.int .u8) M v0_0 a0.b) (res : Int) (h : f_wire_Reader_At a0 = some res) :
    Tri Tryz.prog 70 #[(pt g0 0)] M [[(g0, .cells #[v0_0, (Iv a0.at_), (GV a0.err)] 110 (0, 0))]] (f_wire_Reader_At_post a0 v0_0 g0 res) := by
 unfold f_wire_Reader_At at h
 refine Te Tryz.func70 rfl rfl ?_
 intro F ρ hρ
 exact Sr (qa (Iv 0) (Ns (qM (pt g0 0) (hρ 0) (qu (pt g0 0) (Nk rfl) (qu (pt g0 1) (Fa fo110_1 rfl rfl) (qu (Iv a0.at_) (Lb 0 pl3 rfl rfl rfl) (qa (Iv a0.at_) (Nt (Cr (Rf h [[(g0, .cells #[v0_0, (Iv a0.at_), (GV a0.err)] 110 (0, 0))]] rfl (Rs rfl rfl) lr ⟨rfl, rfl⟩))))))))))

noncomputable def f_wire_Reader_Refuse (a0 : T_wire_Reader) (a1 : ByteArray) (a2 : Int) : Option GErr :=
  ((f_wire_Reader_fail a0 a1 a0.at_ a2).bind fun r21 => (some r21))
def f_wire_Reader_Refuse_post (a0 : T_wire_Reader) (a1 : ByteArray) (a2 : Int) (v0_0 : Value) (g0 : Nat) : GErr → Value → IM → HL → Prop :=
  fun (r0 : GErr) (v : Value) (M' : IM) (H' : HL) => (.tuple #[]) = v ∧ H' = [[(g0, .cells #[v0_0, (.int .i64 a0.at_), (GV r0)] 110 (0, 0))]]
theorem f_wire_Reader_Refuse_ok (a0 : T_wire_Reader) (a1 : ByteArray) (a2 : Int) (M : IM) (v0_0 : Value) (g0 : Nat) (h0_0 : RS (Kd.int .u8) M v0_0 a0.b) (res : GErr) (h : f_wire_Reader_Refuse a0 a1 a2 = some res) :
    Tri Tryz.prog 71 #[(pt g0 0), (Sv a1), (Iv a2)] M [[(g0, .cells #[v0_0, (Iv a0.at_), (GV a0.err)] 110 (0, 0))]] (f_wire_Reader_Refuse_post a0 a1 a2 v0_0 g0 res) := by
 unfold f_wire_Reader_Refuse at h
 refine Te Tryz.func71 rfl rfl ?_
 intro F ρ hρ
 refine Cg (qM (pt g0 0) (hρ 0) (qM (Sv a1) (hρ 1) (qM (pt g0 0) (hρ 0) (qu (pt g0 0) (Nk rfl) (qu (pt g0 1) (Fa fo110_1 rfl rfl) (qu (Iv a0.at_) (Lb 0 pl3 rfl rfl rfl) (qM (Iv a2) (hρ 2) ?_)))))))
 obtain ⟨r21, hr22, h⟩ := bnd h
 refine We (Cb co69 (f_wire_Reader_fail_ok a0 a1 a0.at_ a2 _ _ _ h0_0 r21 hr22) (args4 rfl rfl rfl rfl)) rfl ?_
 rintro _ M23 _ hle24 ⟨_, ⟨rfl, rfl⟩, rfl⟩
 exact WL.a1 (Wz (WQ.endsF h [[(g0, .cells #[v0_0, (Iv a0.at_), (GV r21)] 110 (0, 0))]] rfl (results0 rfl) hle24 ⟨rfl, rfl⟩))

noncomputable def f_record_Read_1 (a0 : Int) (a1 : Int) (a2q : T_wire_Reader) : Option (Int × Int × GErr) :=
  (if (decide ((andI .i64 a1 a0) = (0 : Int))) = true then (some ((0 : Int), a2q.at_, a2q.err)) else ((f_wire_Reader_Int a2q (1073741824 : Int)).bind fun (r22, r23, r24) => (some (r22, r23, r24))))
def f_record_Read_1_post (a0 : Int) (a1 : Int) (a2q : T_wire_Reader) (v2q_0 : Value) (g1 g2 g2q : Nat) : (Int × Int × GErr) → Value → IM → HL → Prop :=
  fun (p_ : (Int × Int × GErr)) (v : Value) (M' : IM) (H' : HL) => match p_ with | (r0, r1, r2) => (.int .i64 r0) = v ∧ H' = [[(g1, .cells #[(.int .i64 a1)] 3 (0, 0))], [(g2q, .cells #[v2q_0, (.int .i64 r1), (GV r2)] 110 (0, 0))], [(g2, .cells #[(.pointer (some ⟨g2q, 0, none⟩))] 69 (0, 0))]]
theorem f_record_Read_1_ok (a0 : Int) (a1 : Int) (a2q : T_wire_Reader) (M : IM) (v2q_0 : Value) (g1 g2 g2q : Nat) (h2q_0 : RS (Kd.int .u8) M v2q_0 a2q.b) (res : (Int × Int × GErr)) (h : f_record_Read_1 a0 a1 a2q = some res) :
    Tri Tryz.prog 99 #[(Iv a0), (pt g1 0), (pt g2 0)] M [[(g1, .cells #[(Iv a1)] 3 (0, 0))], [(g2q, .cells #[v2q_0, (Iv a2q.at_), (GV a2q.err)] 110 (0, 0))], [(g2, .cells #[(pt g2q 0)] 69 (0, 0))]] (f_record_Read_1_post a0 a1 a2q v2q_0 g1 g2 g2q res) := by
 unfold f_record_Read_1 at h
 refine Te Tryz.func99 rfl rfl ?_
 intro F ρ hρ
 refine Sr (qa (Iv 0) (Nt (Cs (Sr (qu (Iv a1) (Lb 0 pl3 (hρ 1) rfl rfl) (qM (Iv a0) (hρ 0) (qu (Iv (andI .i64 a1 a0)) (PO.and rfl rfl) (qu (Bv (decide ((andI .i64 a1 a0) = 0))) (PO.eql rfl rfl) (Nt (Cd (b := decide ((andI .i64 a1 a0) = 0)) rfl (fun hb21 => ?_) (fun hb21 => ?_)))))))))))
 have h := ite_t hb21 h
 exact Sr (qa (Iv 0) (Nt (Cr (Tr (Rf h [[(g1, .cells #[(Iv a1)] 3 (0, 0))], [(g2q, .cells #[v2q_0, (Iv a2q.at_), (GV a2q.err)] 110 (0, 0))], [(g2, .cells #[(pt g2q 0)] 69 (0, 0))]] rfl (Rs rfl rfl) lr ⟨rfl, rfl⟩)))))
 have h := ite_f hb21 h
 refine Ck (Tc (Sr (qu (pt g2q 0) (Lb 2 pl69 (hρ 2) rfl rfl) ?_)))
 obtain ⟨⟨r22, r23, r24⟩, hr25, h⟩ := bnd h
 refine WL.f1 (We (Cb co32 (f_wire_Reader_Int_ok a2q (1073741824 : Int) _ _ _ h2q_0 (r22, r23, r24) hr25) (args2 rfl rfl)) rfl ?_)
 rintro _ M26 _ hle27 ⟨_, ⟨rfl, rfl⟩, rfl⟩
 exact WL.a1 (qa (Iv r22) (Nt (Cr (Qb (Qa (Qb (Rf h [[(g1, .cells #[(Iv a1)] 3 (0, 0))], [(g2q, .cells #[v2q_0, (Iv r23), (GV r24)] 110 (0, 0))], [(g2, .cells #[(pt g2q 0)] 69 (0, 0))]] rfl (Rs rfl rfl) hle27 ⟨rfl, rfl⟩)))))))

noncomputable def f_record_Read_2 (a0 : Int) (a1 : Int) (a2q : T_wire_Reader) : Option (ByteArray × Int × GErr) :=
  (if (decide ((andI .i64 a1 a0) = (0 : Int))) = true then (some ((⟨#[]⟩ : ByteArray), a2q.at_, a2q.err)) else ((f_wire_Reader_Text a2q (256 : Int)).bind fun (r22, r23, r24) => (some (strOfNums r22, r23, r24))))
def f_record_Read_2_post (a0 : Int) (a1 : Int) (a2q : T_wire_Reader) (v2q_0 : Value) (g1 g2 g2q : Nat) : (ByteArray × Int × GErr) → Value → IM → HL → Prop :=
  fun (p_ : (ByteArray × Int × GErr)) (v : Value) (M' : IM) (H' : HL) => match p_ with | (r0, r1, r2) => (.string r0) = v ∧ H' = [[(g1, .cells #[(.int .i64 a1)] 3 (0, 0))], [(g2q, .cells #[v2q_0, (.int .i64 r1), (GV r2)] 110 (0, 0))], [(g2, .cells #[(.pointer (some ⟨g2q, 0, none⟩))] 69 (0, 0))]]
theorem f_record_Read_2_ok (a0 : Int) (a1 : Int) (a2q : T_wire_Reader) (M : IM) (v2q_0 : Value) (g1 g2 g2q : Nat) (h2q_0 : RS (Kd.int .u8) M v2q_0 a2q.b) (res : (ByteArray × Int × GErr)) (h : f_record_Read_2 a0 a1 a2q = some res) :
    Tri Tryz.prog 100 #[(Iv a0), (pt g1 0), (pt g2 0)] M [[(g1, .cells #[(Iv a1)] 3 (0, 0))], [(g2q, .cells #[v2q_0, (Iv a2q.at_), (GV a2q.err)] 110 (0, 0))], [(g2, .cells #[(pt g2q 0)] 69 (0, 0))]] (f_record_Read_2_post a0 a1 a2q v2q_0 g1 g2 g2q res) := by
 unfold f_record_Read_2 at h
 refine Te Tryz.func100 rfl rfl ?_
 intro F ρ hρ
 refine Sr (qa (Sv ⟨#[]⟩) (Nt (Cs (Sr (qu (Iv a1) (Lb 0 pl3 (hρ 1) rfl rfl) (qM (Iv a0) (hρ 0) (qu (Iv (andI .i64 a1 a0)) (PO.and rfl rfl) (qu (Bv (decide ((andI .i64 a1 a0) = 0))) (PO.eql rfl rfl) (Nt (Cd (b := decide ((andI .i64 a1 a0) = 0)) rfl (fun hb21 => ?_) (fun hb21 => ?_)))))))))))
 have h := ite_t hb21 h
 exact Sr (qa (Sv ⟨#[]⟩) (Nt (Cr (Tr (Rf h [[(g1, .cells #[(Iv a1)] 3 (0, 0))], [(g2q, .cells #[v2q_0, (Iv a2q.at_), (GV a2q.err)] 110 (0, 0))], [(g2, .cells #[(pt g2q 0)] 69 (0, 0))]] rfl (Rs rfl rfl) lr ⟨rfl, rfl⟩)))))
 have h := ite_f hb21 h
 refine Ck (Tc (Sr (qu (pt g2q 0) (Lb 2 pl69 (hρ 2) rfl rfl) ?_)))
 obtain ⟨⟨r22, r23, r24⟩, hr25, h⟩ := bnd h
 refine WL.f1 (We (Cb co35 (f_wire_Reader_Text_ok a2q (256 : Int) _ _ _ h2q_0 (r22, r23, r24) hr25) (args2 rfl rfl)) rfl ?_)
 rintro _ M26 _ hle27 ⟨_, ⟨vq28, cq28, rfl, rfl, hq28⟩, rfl⟩
 exact WL.a2 (qu (Sv (strOfNums r22)) (PO.b2s (ys := r22) Tryz.underlying23 Tryz.underlying5 Tryz.underlying9 rfl (hq28.src 1 rfl)) (qa (Sv (strOfNums r22)) (Nt (Cr (Qa (Dr (Qb (Qa (Qb (Rf h [[(g1, .cells #[(Iv a1)] 3 (0, 0))], [(g2q, .cells #[v2q_0, (Iv r23), (GV r24)] 110 (0, 0))], [(g2, .cells #[(pt g2q 0)] 69 (0, 0))]] rfl (Rs rfl rfl) hle27 ⟨rfl, rfl⟩))))))))))

noncomputable def f_wire_Reader_Row_l0 (a0 : T_wire_Reader) (a2 : Int) (r21 : Int) (s_ : ((List Int) × Int × Int × GErr)) : Option (((List Int) × Int × Int × GErr) ⊕ ((List Int) × Int × GErr)) :=
  match s_ with
  | (x33, x34, x35, x36) =>
    (((if (decide (x34 < r21)) = true then (some x36.isNil) else (some false)) : Option Bool).bind fun x40 => (if x40 = true then ((f_wire_Reader_Int (⟨a0.b, x35, x36⟩ : T_wire_Reader) a2).bind fun (r44, r45, r46) => (grd (x33.length + [r44].length ≤ 274877906944) (some (Sum.inl (x33 ++ [r44], IntKind.i64.wrap (x34 + (1 : Int)), r45, r46))))) else (some (Sum.inr (x33, x35, x36)))))
noncomputable def f_wire_Reader_Row (a0 : T_wire_Reader) (a1 : Int) (a2 : Int) : Option ((List Int) × Int × GErr) :=
  ((f_wire_Reader_Int a0 a1).bind fun (r21, r22, r23) => ((((iter (f_wire_Reader_Row_l0 a0 a2 r21) ([], (0 : Int), r22, r23)).bind (fun (x37, x38, x39) => (some (x37, x38, x39)))) : Option ((List Int) × Int × GErr)).bind fun (x28, x29, x30) => (if (!x30.isNil) = true then (some ([], x29, x30)) else (some (x28, x29, x30)))))
def f_wire_Reader_Row_post (a0 : T_wire_Reader) (a1 : Int) (a2 : Int) (v0_0 : Value) (g0 : Nat) : ((List Int) × Int × GErr) → Value → IM → HL → Prop :=
  fun (p_ : ((List Int) × Int × GErr)) (v : Value) (M' : IM) (H' : HL) => match p_ with | (r0, r1, r2) => ∃ vz0 cz0, vz0 = v ∧ H' = [[(g0, .cells #[v0_0, (.int .i64 r1), (GV r2)] 110 (0, 0))], cz0] ∧ OwnS (Kd.int .i64) M' vz0 r0 cz0
theorem f_wire_Reader_Row_ok (a0 : T_wire_Reader) (a1 : Int) (a2 : Int) (M : IM) (v0_0 : Value) (g0 : Nat) (h0_0 : RS (Kd.int .u8) M v0_0 a0.b) (res : ((List Int) × Int × GErr)) (h : f_wire_Reader_Row a0 a1 a2 = some res) :
    Tri Tryz.prog 102 #[(pt g0 0), (Iv a1), (Iv a2)] M [[(g0, .cells #[v0_0, (Iv a0.at_), (GV a0.err)] 110 (0, 0))]] (f_wire_Reader_Row_post a0 a1 a2 v0_0 g0 res) := by
 unfold f_wire_Reader_Row at h
 refine Te Tryz.func102 rfl rfl ?_
 intro F ρ hρ
 refine Sr (qa Zs (Ns (qM (pt g0 0) (hρ 0) (qM (Iv a1) (hρ 1) ?_))))
 obtain ⟨⟨r21, r22, r23⟩, hr24, h⟩ := bnd h
 refine We (Cb co32 (f_wire_Reader_Int_ok a0 a1 _ _ _ h0_0 (r21, r22, r23) hr24) (args2 rfl rfl)) rfl ?_
 rintro _ M25 _ hle26 ⟨_, ⟨rfl, rfl⟩, rfl⟩
 refine WL.a1 (qa (Iv r21) (Ns (qa Zs (Nt ?_))))
 obtain ⟨j31, hj31, h⟩ := bnd h
 refine Jf (fun (p_ : ((List Int) × Int × GErr)) ρ' M' H' => match p_ with | (x28, x29, x30) => ∃ vx28 cx28, M25.le M' ∧ [(g0, .cells #[v0_0, (Iv x29), (GV x30)] 110 (0, 0))] :: cx28 :: F = H' ∧ ρ' 0 = (pt g0 0) ∧ ρ' 8 = vx28 ∧ OwnS (Kd.int .i64) M' vx28 x28 cx28) j31 ?_ ?_
 have h := hj31
 refine Sr (qa (Iv 0) (Nt (Bk (WC.e0 (WC.f1 ?_)))))
 obtain ⟨e32, he32, hK32⟩ := bnd h
 clear h
 refine WC.loop he32 (fun (p_ : ((List Int) × Int × Int × GErr)) ρ' M' H' => match p_ with | (x33, x34, x35, x36) => ∃ vx33 cx33, M25.le M' ∧ [(g0, .cells #[v0_0, (Iv x35), (GV x36)] 110 (0, 0))] :: cx33 :: F = H' ∧ ρ' 0 = (pt g0 0) ∧ ρ' 2 = (Iv a2) ∧ ρ' 7 = (Iv r21) ∧ ρ' 8 = vx33 ∧ ρ' 9 = (Iv x34) ∧ OwnS (Kd.int .i64) M' vx33 x33 cx33) ?_ ?_
 exact ⟨Zs, [], lr, rfl, (hρ 0), (hρ 2), rfl, rfl, rfl, (OwnS.nil _ _)⟩
 rintro ⟨x33, x34, x35, x36⟩ o32 ρ32 M32 H32 h ⟨vx33, cx33, hle32, rfl, hs32_0, hs32_2, hs32_7, hs32_8, hs32_9, hx33⟩
 unfold f_wire_Reader_Row_l0 at h
 refine Cs ?_
 obtain ⟨x40, hj41, h⟩ := bnd h
 refine Jf (fun (x40 : Bool) ρ' M' H' => M32.le M' ∧ [(g0, .cells #[v0_0, (Iv x35), (GV x36)] 110 (0, 0))] :: cx33 :: F = H' ∧ ρ' 0 = (pt g0 0) ∧ ρ' 2 = (Iv a2) ∧ ρ' 7 = (Iv r21) ∧ ρ' 8 = vx33 ∧ ρ' 9 = (Iv x34) ∧ ρ' 22 = (Bv x40)) x40 ?_ ?_
 have h := hj41
 refine Cg (qM (Iv x34) hs32_9 (qM (Iv r21) hs32_7 (qu (Bv (decide (x34 < r21))) (PO.lss rfl rfl) (qm (Bv (decide (x34 < r21))) ?_))))
 rcases Bt (decide (x34 < r21)) with hb42 | hb42
 have h := ite_t hb42 h
 refine On 16 rfl rfl hb42 (qM (pt g0 0) hs32_0 (qo 16 hb42 (pt g0 0) (Nk rfl) (qo 16 hb42 (pt g0 2) (Fa fo110_2 rfl rfl) (qo 16 hb42 (GV x36) (Lb 0 pl31 rfl rfl rfl) (qo 16 hb42 (Bv x36.isNil) (PO.errNil Tryz.underlying31 rfl) (qu (Bv x36.isNil) (Pt rfl hb42 rfl) (Wz ?_)))))))
 obtain rfl := oi h
 exact Tj ⟨lr, rfl, hs32_0, hs32_2, hs32_7, hs32_8, hs32_9, rfl⟩
 have h := ite_f hb42 h
 iterate 5 refine Of 16 rfl rfl hb42 rfl ?_
 refine qu (Bv false) (Pf rfl hb42 rfl) (Wz ?_)
 obtain rfl := oi h
 exact Tj ⟨lr, rfl, hs32_0, hs32_2, hs32_7, hs32_8, hs32_9, rfl⟩
 rintro ρ41 M41 H41 ⟨hle41, rfl, hs41_0, hs41_2, hs41_7, hs41_8, hs41_9, hs41_22⟩
 refine Cd (b := x40) hs41_22 (fun hb43 => ?_) (fun hb43 => ?_)
 have h := ite_t hb43 h
 refine Ck (Tc (Cs (Bk (Cg (qM vx33 hs41_8 (qM (pt g0 0) hs41_0 (qM (Iv a2) hs41_2 ?_)))))))
 obtain ⟨⟨r44, r45, r46⟩, hr47, h⟩ := bnd h
 have h0_0 := h0_0.mono ((hle26.trans hle32).trans hle41)
 refine We (Cb co32 (f_wire_Reader_Int_ok (⟨a0.b, x35, x36⟩ : T_wire_Reader) a2 _ _ _ h0_0 (r44, r45, r46) hr47) (args2 rfl rfl)) rfl ?_
 rintro _ M48 _ hle49 ⟨_, ⟨rfl, rfl⟩, rfl⟩
 refine WL.a1 (We (EO.buildSliceL (cl := [(Iv r44)]) Tryz.underlying56 iz3 rfl (Pc (Iv r44) rfl rfl Pz) rfl) rfl ?_)
 rintro _ _ _ - ⟨rfl, g51, rfl, rfl⟩
 have h53 : OwnS (Kd.int .i64) M48 (.slice (some ⟨g51, 0, none⟩) 1 1) [r44] [(g51, .cells #[(Iv r44)] 3 (0, 0))] := OwnS.rows (css := [[(Iv r44)]]) (Rows.cons rfl Rows.nil) rfl rfl
 obtain ⟨hg57, h⟩ := grd_i h
 refine Wb ?_
 have hx33 := hx33.mono (hle41.trans hle49)
 refine We (EO.append (dd := (Kd.int .i64)) (xs := x33) (ys := [r44]) Tryz.underlying56 Tryz.underlying56 in3 rfl (appB (by decide) hg57) (by decide) rfl rfl hx33 (h53.src 1 rfl)) rfl ?_
 rintro v56 _ _ - ⟨rfl, c54, rfl, h55⟩
 refine qa v56 (Wz (Bn (Tc (Cg (qM (Iv x34) hs41_9 (qu (Iv (IntKind.i64.wrap (x34 + 1))) (PO.add rfl rfl) (qa (Iv (IntKind.i64.wrap (x34 + 1))) (Wz (Qa (Dr (Qa ?_)))))))))))
 exact WQ.again (x33 ++ [r44], IntKind.i64.wrap (x34 + 1), r45, r46) (oi h).symm ⟨v56, c54, ((hle32.trans hle41).trans hle49), rfl, hs41_0, hs41_2, hs41_7, rfl, rfl, h55⟩
 have h := ite_f hb43 h
 refine WC.exit (WQ.thenE (WQ.leaveE (x33, x35, x36) (oi h).symm (fun heq32 => ?_)))
 subst heq32
 have h := hK32
 refine WQ.blockH ?_
 obtain rfl := oi h
 refine Tj ?_
 have hx33 := hx33.mono hle41
 exact ⟨vx33, cx33, (hle32.trans hle41), rfl, hs41_0, hs41_8, hx33⟩
 obtain ⟨x28, x29, x30⟩ := j31
 rintro ρ31 M31 H31 ⟨vx28, cx28, hle31, rfl, hs31_0, hs31_8, hx28⟩
 refine Cs (Sr (qM (pt g0 0) hs31_0 (qu (pt g0 0) (Nk rfl) (qu (pt g0 2) (Fa fo110_2 rfl rfl) (qu (GV x30) (Lb 0 pl31 rfl rfl rfl) (qu (Bv (!x30.isNil)) (PO.errNotNil Tryz.underlying31 rfl) (Nt (Cd (b := !x30.isNil) rfl (fun hb59 => ?_) (fun hb59 => ?_)))))))))
 have h := ite_t hb59 h
 exact Sr (qa Zs (Nt (Cr (Tr (WQ.e0 (Qb (Dr (Qa (Rf h [[(g0, .cells #[v0_0, (Iv x29), (GV x30)] 110 (0, 0))], []] rfl (Rs rfl rfl) (hle26.trans hle31) ⟨Zs, [], rfl, rfl, (OwnS.nil _ _)⟩)))))))))
 have h := ite_f hb59 h
 exact Ck (Tc (Sr (qM vx28 hs31_8 (qa vx28 (Nt (Cr (Rf h [[(g0, .cells #[v0_0, (Iv x29), (GV x30)] 110 (0, 0))], cx28] rfl (Rs rfl rfl) (hle26.trans hle31) ⟨vx28, cx28, rfl, rfl, hx28⟩)))))))

noncomputable def f_record_Read_3 (a0 : Int) (a1 : Int) (a2q : T_wire_Reader) : Option ((List Int) × Int × GErr) :=
  (if (decide ((andI .i64 a1 a0) = (0 : Int))) = true then (some ([], a2q.at_, a2q.err)) else ((f_wire_Reader_Row a2q (7 : Int) (64 : Int)).bind fun (r23, r24, r25) => (some (r23, r24, r25))))
def f_record_Read_3_post (a0 : Int) (a1 : Int) (a2q : T_wire_Reader) (v2q_0 : Value) (g1 g2 g2q : Nat) : ((List Int) × Int × GErr) → Value → IM → HL → Prop :=
  fun (p_ : ((List Int) × Int × GErr)) (v : Value) (M' : IM) (H' : HL) => match p_ with | (r0, r1, r2) => ∃ vz0 cz0, vz0 = v ∧ H' = [[(g1, .cells #[(.int .i64 a1)] 3 (0, 0))], [(g2q, .cells #[v2q_0, (.int .i64 r1), (GV r2)] 110 (0, 0))], [(g2, .cells #[(.pointer (some ⟨g2q, 0, none⟩))] 69 (0, 0))], cz0] ∧ OwnS (Kd.int .i64) M' vz0 r0 cz0
theorem f_record_Read_3_ok (a0 : Int) (a1 : Int) (a2q : T_wire_Reader) (M : IM) (v2q_0 : Value) (g1 g2 g2q : Nat) (h2q_0 : RS (Kd.int .u8) M v2q_0 a2q.b) (res : ((List Int) × Int × GErr)) (h : f_record_Read_3 a0 a1 a2q = some res) :
    Tri Tryz.prog 101 #[(Iv a0), (pt g1 0), (pt g2 0)] M [[(g1, .cells #[(Iv a1)] 3 (0, 0))], [(g2q, .cells #[v2q_0, (Iv a2q.at_), (GV a2q.err)] 110 (0, 0))], [(g2, .cells #[(pt g2q 0)] 69 (0, 0))]] (f_record_Read_3_post a0 a1 a2q v2q_0 g1 g2 g2q res) := by
 unfold f_record_Read_3 at h
 refine Te Tryz.func101 rfl rfl ?_
 intro F ρ hρ
 refine Sr (qa Zs (Nt (Cs (Sr (qu (Iv a1) (Lb 0 pl3 (hρ 1) rfl rfl) (qM (Iv a0) (hρ 0) (qu (Iv (andI .i64 a1 a0)) (PO.and rfl rfl) (qu (Bv (decide ((andI .i64 a1 a0) = 0))) (PO.eql rfl rfl) (Nt (Cd (b := decide ((andI .i64 a1 a0) = 0)) rfl (fun hb21 => ?_) (fun hb21 => ?_)))))))))))
 have h := ite_t hb21 h
 exact Sr (qa Zs (Nt (Cr (Tr (WQ.e0 (WQ.f3 (WQ.f3 (WQ.f3 (Rf h [[(g1, .cells #[(Iv a1)] 3 (0, 0))], [(g2q, .cells #[v2q_0, (Iv a2q.at_), (GV a2q.err)] 110 (0, 0))], [(g2, .cells #[(pt g2q 0)] 69 (0, 0))], []] rfl (Rs rfl rfl) lr ⟨Zs, [], rfl, rfl, (OwnS.nil _ _)⟩)))))))))
 have h := ite_f hb21 h
 refine Ck (Tc (Sr (qu (pt g2q 0) (Lb 2 pl69 (hρ 2) rfl rfl) ?_)))
 obtain ⟨⟨r23, r24, r25⟩, hr26, h⟩ := bnd h
 refine WL.f1 (We (Cb co102 (f_wire_Reader_Row_ok a2q (7 : Int) (64 : Int) _ _ _ h2q_0 (r23, r24, r25) hr26) (args3 rfl rfl rfl)) rfl ?_)
 rintro _ M27 _ hle28 ⟨_, ⟨vq29, cq29, rfl, rfl, hq29⟩, rfl⟩
 exact WL.a2 (qa vq29 (Nt (Cr (Qa (WQ.f3 (Qb (WQ.f3 (Rf h [[(g1, .cells #[(Iv a1)] 3 (0, 0))], [(g2q, .cells #[v2q_0, (Iv r24), (GV r25)] 110 (0, 0))], [(g2, .cells #[(pt g2q 0)] 69 (0, 0))], cq29] rfl (Rs rfl rfl) hle28 ⟨vq29, cq29, rfl, rfl, hq29⟩))))))))

noncomputable def f_api_Fault_Unwrap (a0 : T_api_Fault) : Option GErr :=
  (some a0.Err)
def f_api_Fault_Unwrap_post (a0 : T_api_Fault) : GErr → Value → IM → HL → Prop :=
  fun (r0 : GErr) (v : Value) (M' : IM) (H' : HL) => (GV r0) = v ∧ H' = []
theorem f_api_Fault_Unwrap_ok (a0 : T_api_Fault) (M : IM) (res : GErr) (h : f_api_Fault_Unwrap a0 = some res) :
    Tri Tryz.prog 168 #[(a108_ a0)] M [] (f_api_Fault_Unwrap_post a0 res) := by
 unfold f_api_Fault_Unwrap at h
 refine Te Tryz.func168 rfl rfl ?_
 intro F ρ hρ
 refine Sr (We (EO.box (cs := (l108 a0).toArray) (congrArg Value.cells (asE (a108_ a0) (hρ 0)))) rfl ?_)
 rintro _ _ _ - ⟨rfl, g21, rfl, rfl⟩
 exact qa (GV GErr.nil) (Ns (qu (pt g21 2) (Fa fo108_2 rfl rfl) (qu (GV a0.Err) (Lb 0 pl31 rfl rfl rfl) (qa (GV a0.Err) (Nt (Cr (Dr (Rf h [] rfl (Rs rfl rfl) lr ⟨rfl, rfl⟩))))))))

noncomputable def f_errors_as_code_l0 (a1 : Int) (s_ : GErr) : Option (GErr ⊕ (Bool × Int)) :=
  match s_ with
  | x23 =>
    (match x23 with | .nil => none | .code n26 => (some (Sum.inr (true, n26))) | .fault o27 a28 e29 => ((f_api_Fault_Unwrap (⟨o27, a28, e29⟩ : T_api_Fault)).bind fun r32 => (if r32.isNil = true then (some (Sum.inr (false, a1))) else (some (Sum.inl r32)))) | .other b30 => (some (Sum.inr (false, a1))))
noncomputable def f_errors_as_code (a0 : GErr) (a1 : Int) : Option (Bool × Int) :=
  ((iter (f_errors_as_code_l0 a1) a0).bind (fun (x24, x25) => (some (x24, x25))))
def f_errors_as_code_post (a0 : GErr) (a1 : Int) (g1 g2 : Nat) : (Bool × Int) → Value → IM → HL → Prop :=
  fun (p_ : (Bool × Int)) (v : Value) (M' : IM) (H' : HL) => match p_ with | (r0, r1) => (.bool r0) = v ∧ H' = [[(g1, .cells #[(.int .i64 r1)] 38 (0, 0))], [(g2, .cells #[(.pointer (some ⟨g1, 0, none⟩))] 119 (0, 0))]]
theorem f_errors_as_code_ok (a0 : GErr) (a1 : Int) (M : IM) (g1 g2 : Nat) (res : (Bool × Int)) (h : f_errors_as_code a0 a1 = some res) :
    Tri Tryz.prog 111 #[(GV a0), (.iface 119 (pt g1 0)), (.agg #[(pt 1 119), (pt g2 0), (Uv 150)]), (.iface 184 (.agg #[.pointer (some ⟨1, 38, none⟩)]))] M [[(g1, .cells #[(Iv a1)] 38 (0, 0))], [(g2, .cells #[(pt g1 0)] 119 (0, 0))]] (f_errors_as_code_post a0 a1 g1 g2 res) := by
 unfold f_errors_as_code at h
 refine Te Tryz.func111 rfl rfl ?_
 intro F ρ hρ
 refine Sr (We (EO.box (cs := #[(pt 1 119), (pt g2 0), (Uv 150)]) (congrArg Value.cells (asE (.agg #[(pt 1 119), (pt g2 0), (Uv 150)]) (hρ 2)))) rfl ?_)
 rintro _ _ _ - ⟨rfl, g21, rfl, rfl⟩
 refine qa (Bv false) (Nt (Bk ?_))
 obtain ⟨e22, he22, hK22⟩ := bnd h
 clear h
 refine WC.loop he22 (fun (x23 : GErr) ρ' M' H' => M.le M' ∧ [(g21, .cells #[(pt 1 119), (pt g2 0), (Uv 150)] 153 (0, 0))] :: [(g1, .cells #[(Iv a1)] 38 (0, 0))] :: [(g2, .cells #[(pt g1 0)] 119 (0, 0))] :: F = H' ∧ ρ' 0 = (GV x23) ∧ ρ' 1 = (.iface 119 (pt g1 0)) ∧ ρ' 3 = (.iface 184 (.agg #[.pointer (some ⟨1, 38, none⟩)])) ∧ ρ' 6 = (pt g21 0)) ?_ ?_
 exact ⟨lr, rfl, (hρ 0), (hρ 1), (hρ 3), rfl⟩
 rintro x23 o22 ρ22 M22 H22 h ⟨hle22, rfl, hs22_0, hs22_1, hs22_3, hs22_6⟩
 unfold f_errors_as_code_l0 at h
 refine Bk (Cs (Sr (qM (GV x23) hs22_0 ?_)))
 rcases x23 with _ | n26 | ⟨o27, a28, e29⟩ | b30
 refine We (EO.extP xt91 (args1 (show ev _ _ = .nilIface from rfl)) tyNil) rfl ?_
 rintro _ _ _ - ⟨rfl, rfl, rfl⟩
 exact qM (.iface 184 (.agg #[.pointer (some ⟨1, 38, none⟩)])) hs22_3 (nones h)
 refine We (EO.extP xt91 (args1 (show ev _ _ = (.iface 38 (Iv n26)) from rfl)) (ty38 _)) rfl ?_
 rintro _ _ _ - ⟨rfl, rfl, rfl⟩
 refine qM (.iface 184 (.agg #[.pointer (some ⟨1, 38, none⟩)])) hs22_3 (We (EO.invE (show ev _ _ = (.iface 184 (.agg #[.pointer (some ⟨1, 38, none⟩)])) from rfl) (mm_AssignableTo (pt 1 38)) xt173 (inv1 rfl) mr_AssignableTo_38_38) rfl ?_)
 rintro _ _ _ - ⟨rfl, rfl, rfl⟩
 refine Nt (WC.condT (b := true) rfl rfl (Sr (qu (.agg #[(pt 1 119), (pt g2 0), (Uv 150)]) (La (cs := [(pt 1 119), (pt g2 0), (Uv 150)]) 0 ag153 sz153 hs22_6 rfl rfl) (We (EO.rvElem (r := fun p => .agg #[(pt 1 38), .pointer (some p), .int .u64 386]) 2 xt137 pp119_150 rfl pl119 el119 mk38 (args1 (show ev _ _ = (.agg #[(pt 1 119), (pt g2 0), (Uv 150)]) from rfl)) rfl) rfl ?_))))
 rintro _ _ _ - ⟨rfl, rfl, rfl⟩
 refine qM (GV (GErr.code n26)) hs22_0 (We (EO.valueOf xt108 (args1 (show ev _ _ = (.iface 38 (Iv n26)) from rfl)) (vo38 n26)) rfl ?_)
 rintro _ _ _ - ⟨rfl, g31, rfl, rfl⟩
 refine Wb (We (EO.rvSet (arr := [(Iv a1)]) (vl := [(Iv n26)]) (v := (Iv n26)) xt138 pp38_386 pp38_130 rfl da38 (args2 (show ev _ _ = (.agg #[(pt 1 38), (pt g1 0), (Uv 386)]) from rfl) (show ev _ _ = (.agg #[(pt 1 38), (pt g31 0), (Uv 130)]) from rfl)) (fun _ hs => run_loadPlain pl38 (hs.cellC 1 rfl (chunkCell_lit.trans rfl))) rfl sz38 rfl (onb rfl)) rfl ?_)
 rintro _ _ _ - ⟨rfl, rfl, rfl⟩
 refine Ns (qa (Bv true) (Nt (Cr (Tr (Br (WQ.leaveR (true, n26) (oi h).symm (fun heq22 => ?_)))))))
 subst heq22
 have h := hK22
 exact Br (Qa (Dr (Qa (Dr (Rf h [[(g1, .cells #[(Iv n26)] 38 (0, 0))], [(g2, .cells #[(pt g1 0)] 119 (0, 0))]] rfl (Rs rfl rfl) hle22 ⟨rfl, rfl⟩)))))
 refine We (EO.extP xt91 (args1 (show ev _ _ = (.iface 108 (.agg #[.string o27, .int .i64 a28, GV e29])) from rfl)) (ty108 _)) rfl ?_
 rintro _ _ _ - ⟨rfl, rfl, rfl⟩
 refine qM (.iface 184 (.agg #[.pointer (some ⟨1, 38, none⟩)])) hs22_3 (We (EO.invE (show ev _ _ = (.iface 184 (.agg #[.pointer (some ⟨1, 108, none⟩)])) from rfl) (mm_AssignableTo (pt 1 108)) xt173 (inv1 rfl) mr_AssignableTo_108_38) rfl ?_)
 rintro _ _ _ - ⟨rfl, rfl, rfl⟩
 refine Nt (WC.condF (b := false) rfl rfl (Ck (Tc (Cs (Sr (qM (GV (GErr.fault o27 a28 e29)) hs22_0 (qu (.tuple #[.nilIface, (Bv false)]) (PO.asserts (show ev _ _ = (.iface 108 (.agg #[.string o27, .int .i64 a28, GV e29])) from rfl) (la108_196 _ _)) (qm (.tuple #[.nilIface, (Bv false)]) (qu .nilIface (Xt rfl rfl) (qu (Bv false) (Xt rfl rfl) (qa .nilIface ?_)))))))))))
 refine qa (Bv false) (Ns (qm (Bv false) (qm (Bv false) ?_)))
 iterate 3 refine Of 31 rfl rfl rfl rfl ?_
 refine qu (Bv false) (Pf rfl rfl rfl) (Nt (WC.condF (b := false) rfl rfl (Ck (Tc (Sr (qM (GV (GErr.fault o27 a28 e29)) hs22_0 (Nt (Bk (Sr (qu (.tuple #[(GV (GErr.fault o27 a28 e29)), (Bv true)]) (PO.asserts (show ev _ _ = (.iface 108 (.agg #[.string o27, .int .i64 a28, GV e29])) from rfl) (ha108_189 _ _)) (qu (Bv true) (Xt rfl rfl) ?_)))))))))))
 refine qu (GV (GErr.fault o27 a28 e29)) (Xt rfl rfl) (Nt (WC.condT (b := true) rfl rfl (Sr (qa (GV (GErr.fault o27 a28 e29)) (Ns (qm (GV (GErr.fault o27 a28 e29)) ?_))))))
 obtain ⟨r32, hr33, h⟩ := bnd h
 refine We (EO.invT (show ev _ _ = (.iface 108 (.agg #[.string o27, .int .i64 a28, GV e29])) from rfl) (me108_Unwrap _) co168 inv0 (f_api_Fault_Unwrap_ok (⟨o27, a28, e29⟩ : T_api_Fault) _ r32 hr33)) rfl ?_
 rintro _ M34 _ hle35 ⟨_, ⟨rfl, rfl⟩, rfl⟩
 refine WL.a0 (qa (GV r32) (Ns (qm (GV r32) (qu (Bv r32.isNil) (PO.errNil Tryz.underlying31 rfl) (Nt (Cd (b := r32.isNil) rfl (fun hb37 => ?_) (fun hb37 => ?_)))))))
 have h := ite_t hb37 h
 refine Sr (qa (Bv false) (Nt (Cr (Br (Br (WQ.leaveR (false, a1) (oi h).symm (fun heq22 => ?_)))))))
 subst heq22
 have h := hK22
 exact Br (Dr (Rf h [[(g1, .cells #[(Iv a1)] 38 (0, 0))], [(g2, .cells #[(pt g1 0)] 119 (0, 0))]] rfl (Rs rfl rfl) (hle22.trans hle35) ⟨rfl, rfl⟩))
 have h := ite_f hb37 h
 exact Ck (Bn (Bn (WQ.again r32 (oi h).symm ⟨(hle22.trans hle35), rfl, rfl, hs22_1, hs22_3, hs22_6⟩)))
 refine We (EO.extP xt91 (args1 (show ev _ _ = (.iface 0 (.pointer (some b30))) from rfl)) (ty0 _)) rfl ?_
 rintro _ _ _ - ⟨rfl, rfl, rfl⟩
 refine qM (.iface 184 (.agg #[.pointer (some ⟨1, 38, none⟩)])) hs22_3 (We (EO.invE (show ev _ _ = (.iface 184 (.agg #[.pointer (some ⟨1, 0, none⟩)])) from rfl) (mm_AssignableTo (pt 1 0)) xt173 (inv1 rfl) mr_AssignableTo_0_38) rfl ?_)
 rintro _ _ _ - ⟨rfl, rfl, rfl⟩
 refine Nt (WC.condF (b := false) rfl rfl (Ck (Tc (Cs (Sr (qM (GV (GErr.other b30)) hs22_0 (qu (.tuple #[.nilIface, (Bv false)]) (PO.asserts (show ev _ _ = (.iface 0 (.pointer (some b30))) from rfl) (la0_196 _ _)) (qm (.tuple #[.nilIface, (Bv false)]) (qu .nilIface (Xt rfl rfl) (qu (Bv false) (Xt rfl rfl) (qa .nilIface ?_)))))))))))
 refine qa (Bv false) (Ns (qm (Bv false) (qm (Bv false) ?_)))
 iterate 3 refine Of 31 rfl rfl rfl rfl ?_
 refine qu (Bv false) (Pf rfl rfl rfl) (Nt (WC.condF (b := false) rfl rfl (Ck (Tc (Sr (qM (GV (GErr.other b30)) hs22_0 (Nt (Bk (Sr (qu (.tuple #[.nilIface, (Bv false)]) (PO.asserts (show ev _ _ = (.iface 0 (.pointer (some b30))) from rfl) (la0_189 _ _)) (qu (Bv false) (Xt rfl rfl) ?_)))))))))))
 refine qu .nilIface (Xt rfl rfl) (Nt (WC.condF (b := false) rfl rfl (Sr (qu (.tuple #[.nilIface, (Bv false)]) (PO.asserts (show ev _ _ = (.iface 0 (.pointer (some b30))) from rfl) (la0_190 _ _)) (qu (Bv false) (Xt rfl rfl) (qu .nilIface (Xt rfl rfl) (Nt (WC.condF (b := false) rfl rfl (Sr (qa (GV (GErr.other b30)) (Ns ?_)))))))))))
 refine qa (Bv false) (Nt (Cr (Br (Br (WQ.leaveR (false, a1) (oi h).symm (fun heq22 => ?_))))))
 subst heq22
 have h := hK22
 exact Br (Dr (Rf h [[(g1, .cells #[(Iv a1)] 38 (0, 0))], [(g2, .cells #[(pt g1 0)] 119 (0, 0))]] rfl (Rs rfl rfl) hle22 ⟨rfl, rfl⟩))

noncomputable def f_errors_As_code (a0 : GErr) (a1 : Int) : Option (Bool × Int) :=
  (if a0.isNil = true then (some (false, a1)) else ((f_errors_as_code a0 a1).bind fun (r24, r25) => (some (r24, r25))))
def f_errors_As_code_post (a0 : GErr) (a1 : Int) (g1 : Nat) : (Bool × Int) → Value → IM → HL → Prop :=
  fun (p_ : (Bool × Int)) (v : Value) (M' : IM) (H' : HL) => match p_ with | (r0, r1) => (.bool r0) = v ∧ H' = [[(g1, .cells #[(.int .i64 r1)] 38 (0, 0))]]
theorem f_errors_As_code_ok (a0 : GErr) (a1 : Int) (M : IM) (g1 : Nat) (hE : Env M) (res : (Bool × Int)) (h : f_errors_As_code a0 a1 = some res) :
    Tri Tryz.prog 75 #[(GV a0), (.iface 119 (pt g1 0))] M [[(g1, .cells #[(Iv a1)] 38 (0, 0))]] (f_errors_As_code_post a0 a1 g1 res) := by
 unfold f_errors_As_code at h
 refine Te Tryz.func75 rfl rfl ?_
 intro F ρ hρ
 refine Sr (qa (Bv false) (Nt (Cs (Sr (qM (GV a0) (hρ 0) (qu (Bv a0.isNil) (PO.errNil Tryz.underlying31 rfl) (Nt (Cd (b := a0.isNil) rfl (fun hb21 => ?_) (fun hb21 => ?_)))))))))
 have h := ite_t hb21 h
 exact Sr (qa (Bv false) (Nt (Cr (Tr (Rf h [[(g1, .cells #[(Iv a1)] 38 (0, 0))]] rfl (Rs rfl rfl) lr ⟨rfl, rfl⟩)))))
 have h := ite_f hb21 h
 refine Ck (Tc (Cs (Sr (qM (.iface 119 (pt g1 0)) (hρ 1) (qu (Bv false) (PO.ifcNil Tryz.underlying20 rfl) (Nt (WC.condF (b := false) rfl rfl (Ck (Tc (Sr (qM (.iface 119 (pt g1 0)) (hρ 1) ?_)))))))))))
 refine We (EO.valueOf xt108 (args1 (show ev _ _ = (.iface 119 (pt g1 0)) from rfl)) (vo119 ⟨g1, 0, none⟩)) rfl ?_
 rintro _ _ _ - ⟨rfl, g22, rfl, rfl⟩
 refine We (Al ze153 rfl) rfl ?_
 rintro _ _ _ - ⟨rfl, g23, rfl, rfl⟩
 refine We (Sg (v := (.agg #[(pt 1 119), (pt g22 0), (Uv 150)])) (vl := [(pt 1 119), (pt g22 0), (Uv 150)]) (arr' := [(pt 1 119), (pt g22 0), (Uv 150)]) rfl sz153 rfl rfl (onb rfl) rfl rfl rfl) rfl ?_
 rintro _ _ _ - ⟨rfl, rfl⟩
 refine Ns (qu (.agg #[(pt 1 119), (pt g22 0), (Uv 150)]) (La (cs := [(pt 1 119), (pt g22 0), (Uv 150)]) 0 ag153 sz153 rfl rfl rfl) (We (EO.extP xt109 (args1 (show ev _ _ = (.agg #[(pt 1 119), (pt g22 0), (Uv 150)]) from rfl)) (vt119_150 _)) rfl ?_))
 rintro _ _ _ - ⟨rfl, rfl, rfl⟩
 refine qa (.iface 184 (.agg #[.pointer (some ⟨1, 119, none⟩)])) (Nt (Cs (Sr (qm (.iface 184 (.agg #[.pointer (some ⟨1, 119, none⟩)])) (We (EO.invE (show ev _ _ = (.iface 184 (.agg #[.pointer (some ⟨1, 119, none⟩)])) from rfl) (mm_Kind (pt 1 119)) xt163 inv0 mr_Kind_119) rfl ?_)))))
 rintro _ _ _ - ⟨rfl, rfl, rfl⟩
 refine qu (Bv false) (PO.neqR rfl rfl (by decide)) (qm (Bv false) (qo 20 rfl (.agg #[(pt 1 119), (pt g22 0), (Uv 150)]) (La (cs := [(pt 1 119), (pt g22 0), (Uv 150)]) 0 ag153 sz153 rfl rfl rfl) (On 20 rfl rfl rfl (We (EO.isNil 1 xt110 pp119_150 rfl pl119 (args1 (show ev _ _ = (.agg #[(pt 1 119), (pt g22 0), (Uv 150)]) from rfl)) rfl) rfl ?_))))
 rintro _ _ _ - ⟨rfl, rfl, rfl⟩
 refine qu (Bv false) (Pf rfl rfl rfl) (Nt (WC.condF (b := false) rfl rfl (Ck (Tc (Sr (qm (.iface 184 (.agg #[.pointer (some ⟨1, 119, none⟩)])) (We (EO.invE (show ev _ _ = (.iface 184 (.agg #[.pointer (some ⟨1, 119, none⟩)])) from rfl) (mm_Elem (pt 1 119)) xt175 inv0 mr_Elem_119) rfl ?_)))))))
 rintro _ _ _ - ⟨rfl, rfl, rfl⟩
 refine qa (.iface 184 (.agg #[.pointer (some ⟨1, 38, none⟩)])) (Nt (Cs (Sr (qm (.iface 184 (.agg #[.pointer (some ⟨1, 38, none⟩)])) (We (EO.invE (show ev _ _ = (.iface 184 (.agg #[.pointer (some ⟨1, 38, none⟩)])) from rfl) (mm_Kind (pt 1 38)) xt163 inv0 mr_Kind_38) rfl ?_)))))
 rintro _ _ _ - ⟨rfl, rfl, rfl⟩
 refine qu (Bv true) (PO.neqR rfl rfl (by decide)) (qm (Bv true) (On 30 rfl rfl rfl (qm (.iface 184 (.agg #[.pointer (some ⟨1, 38, none⟩)])) (qo 30 rfl (.iface 184 (.agg #[.pointer (some ⟨1, 31, none⟩)])) (PO.loadG pl138 hE) (On 30 rfl rfl rfl (We (EO.invE (show ev _ _ = (.iface 184 (.agg #[.pointer (some ⟨1, 38, none⟩)])) from rfl) (mm_Implements (pt 1 38)) xt176 (inv1 rfl) mr_Implements_38_31) rfl ?_))))))
 rintro _ _ _ - ⟨rfl, rfl, rfl⟩
 refine qo 30 rfl (Bv (!true)) (PO.not rfl) (qu (Bv (!true)) (Pt rfl rfl rfl) (Nt (WC.condF (b := !true) rfl rfl (Ck (Tc (Sr (qM (GV a0) (hρ 0) (qM (.iface 119 (pt g1 0)) (hρ 1) (qu (.agg #[(pt 1 119), (pt g22 0), (Uv 150)]) (La (cs := [(pt 1 119), (pt g22 0), (Uv 150)]) 0 ag153 sz153 rfl rfl rfl) (qm (.iface 184 (.agg #[.pointer (some ⟨1, 38, none⟩)])) ?_))))))))))
 obtain ⟨⟨r24, r25⟩, hr26, h⟩ := bnd h
 refine WL.f1 (Wb (We (EO.call2 co111 (f_errors_as_code_ok a0 a1 _ _ _ (r24, r25) hr26) (args4 rfl rfl rfl rfl)) rfl ?_))
 rintro _ M27 _ hle28 ⟨_, ⟨rfl, rfl⟩, rfl⟩
 exact WL.a2 (qa (Bv r24) (Nt (Cr (Qa (Dr (Qa (Dr (Rf h [[(g1, .cells #[(Iv r25)] 38 (0, 0))]] rfl (Rs rfl rfl) hle28 ⟨rfl, rfl⟩))))))))

noncomputable def f_fault_Of (a0 : GErr) : Option Int :=
  (if a0.isNil = true then (some (0 : Int)) else ((f_errors_As_code a0 (0 : Int)).bind fun (r23, r24) => (if r23 = true then (some r24) else (some (21 : Int)))))
def f_fault_Of_post (a0 : GErr) : Int → Value → IM → HL → Prop :=
  fun (r0 : Int) (v : Value) (M' : IM) (H' : HL) => (.int .i64 r0) = v ∧ H' = []
theorem f_fault_Of_ok (a0 : GErr) (M : IM) (hE : Env M) (res : Int) (h : f_fault_Of a0 = some res) :
    Tri Tryz.prog 45 #[(GV a0)] M [] (f_fault_Of_post a0 res) := by
 unfold f_fault_Of at h
 refine Te Tryz.func45 rfl rfl ?_
 intro F ρ hρ
 refine Sr (qa (Iv 0) (Nt (Cs (Sr (qM (GV a0) (hρ 0) (qu (Bv a0.isNil) (PO.errNil Tryz.underlying31 rfl) (Nt (Cd (b := a0.isNil) rfl (fun hb21 => ?_) (fun hb21 => ?_)))))))))
 have h := ite_t hb21 h
 exact Sr (qa (Iv 0) (Nt (Cr (Tr (Rf h [] rfl (Rs rfl rfl) lr ⟨rfl, rfl⟩)))))
 have h := ite_f hb21 h
 refine Ck (Tc (Sr (We (Al ze38 rfl) rfl ?_)))
 rintro _ _ _ - ⟨rfl, g22, rfl, rfl⟩
 refine Nt (Cs (Sr (qM (GV a0) (hρ 0) (qu (.iface 119 (pt g22 0)) (PO.makeInterface cc119 rfl) ?_))))
 obtain ⟨⟨r23, r24⟩, hr25, h⟩ := bnd h
 refine We (Cb co75 (f_errors_As_code_ok a0 (0 : Int) _ _ hE (r23, r24) hr25) (args2 rfl rfl)) rfl ?_
 rintro _ M26 _ hle27 ⟨_, ⟨rfl, rfl⟩, rfl⟩
 refine WL.a1 (Nt (Cd (b := r23) rfl (fun hb29 => ?_) (fun hb29 => ?_)))
 have h := ite_t hb29 h
 exact Sr (qu (Iv r24) (Lb 0 pl38 rfl rfl rfl) (qa (Iv r24) (Nt (Cr (Tr (Dr (Rf h [] rfl (Rs rfl rfl) hle27 ⟨rfl, rfl⟩)))))))
 have h := ite_f hb29 h
 exact Ck (Tc (Sr (qa (Iv 21) (Nt (Cr (Dr (Rf h [] rfl (Rs rfl rfl) hle27 ⟨rfl, rfl⟩)))))))


end Go.Proofs.YtkflneabcannnaaGreatDoor.G
