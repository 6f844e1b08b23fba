/- Go functions: what they come to, and that they do. Printed by a program of the session (gen). -/
import Derived.Test.YtkflneabcannnaaGreatDoorCF
import Derived.Test.YtkflneabcannnaaGreatDoorC6
import Derived.Test.YtkflneabcannnaaGreatDoorC13
import Derived.Test.YtkflneabcannnaaGreatDoorKConv
import Derived.Test.YtkflneabcannnaaGreatDoorKShar2
import Derived.Test.YtkflneabcannnaaGreatDoorKTight2
set_option linter.unusedVariables false
set_option linter.unusedSimpArgs false
set_option maxHeartbeats 8000000
set_option maxRecDepth 100000
namespace Go.Proofs.YtkflneabcannnaaGreatDoor.G
open Go Go.KK

noncomputable def f_fault_Path_l0 (s_ : (GErr × (List ByteArray))) : Option ((GErr × (List ByteArray)) ⊕ (List ByteArray)) :=
  match s_ with
  | (x24, x25) =>
    (if (!x24.isNil) = true then ((f_errors_As_fault x24 (⟨(⟨#[]⟩ : ByteArray), (0 : Int), GErr.nil⟩ : T_api_Fault)).bind fun (r29, r30, r31, r32) => (if (!r29) = true then (some (Sum.inr x25)) else (grd (x25.length + [r30].length ≤ 274877906944) (some (Sum.inl (r32, x25 ++ [r30])))))) else (some (Sum.inr x25)))
noncomputable def f_fault_Path (a0 : GErr) : Option (List ByteArray) :=
  ((((iter (f_fault_Path_l0) (a0, [])).bind (fun (x26 : (List ByteArray)) => (some x26))) : Option (List ByteArray)).bind fun x21 => (some x21))
def f_fault_Path_post (a0 : GErr) : (List ByteArray) → Value → IM → HL → Prop :=
  fun (r0 : (List ByteArray)) (v : Value) (M' : IM) (H' : HL) => ∃ vz0 cz0, vz0 = v ∧ H' = [cz0] ∧ OwnS Kd.str M' vz0 r0 cz0
theorem f_fault_Path_ok (a0 : GErr) (M : IM) (hE : Env M) (res : (List ByteArray)) (h : f_fault_Path a0 = some res) :
    Tri Tryz.prog 76 #[(GV a0)] M [] (f_fault_Path_post a0 res) := by
 unfold f_fault_Path at h
 refine Te Tryz.func76 rfl rfl ?_
 intro F ρ hρ
 refine Sr (qa Zs (Ns (qa Zs (Nt ?_))))
 obtain ⟨x21, hj22, h⟩ := bnd h
 refine Jf (fun (x21 : (List ByteArray)) ρ' M' H' => ∃ vx21 cx21, M.le M' ∧ cx21 :: F = H' ∧ ρ' 3 = vx21 ∧ OwnS Kd.str M' vx21 x21 cx21) x21 ?_ ?_
 have h := hj22
 refine Bk (WC.e0 ?_)
 obtain ⟨e23, he23, hK23⟩ := bnd h
 clear h
 refine WC.loop he23 (fun (p_ : (GErr × (List ByteArray))) ρ' M' H' => match p_ with | (x24, x25) => ∃ vx25 cx25, M.le M' ∧ cx25 :: F = H' ∧ ρ' 0 = (GV x24) ∧ ρ' 3 = vx25 ∧ OwnS Kd.str M' vx25 x25 cx25) ?_ ?_
 exact ⟨Zs, [], lr, rfl, (hρ 0), rfl, (OwnS.nil _ _)⟩
 rintro ⟨x24, x25⟩ o23 ρ23 M23 H23 h ⟨vx25, cx25, hle23, rfl, hs23_0, hs23_3, hx25⟩
 unfold f_fault_Path_l0 at h
 refine Cs (Sr (qM (GV x24) hs23_0 (qu (Bv (!x24.isNil)) (PO.errNotNil Tryz.underlying31 rfl) (Nt (Cd (b := !x24.isNil) rfl (fun hb27 => ?_) (fun hb27 => ?_))))))
 have h := ite_t hb27 h
 refine Ck (Tc (Bk (Sr (We (Al ze108 rfl) rfl ?_))))
 rintro _ _ _ - ⟨rfl, g28, rfl, rfl⟩
 refine Nt (Cs (Sr (qM (GV x24) hs23_0 (qu (.iface 118 (pt g28 0)) (PO.makeInterface cc118 rfl) ?_))))
 obtain ⟨⟨r29, r30, r31, r32⟩, hr33, h⟩ := bnd h
 have hE := hE.mono hle23
 refine We (Cb co75 (f_errors_As_fault_ok x24 (⟨(⟨#[]⟩ : ByteArray), (0 : Int), GErr.nil⟩ : T_api_Fault) _ _ hE (r29, r30, r31, r32) hr33) (args2 rfl rfl)) rfl ?_
 rintro _ M34 _ hle35 ⟨_, ⟨rfl, rfl⟩, rfl⟩
 refine WL.a1 (qu (Bv (!r29)) (PO.not rfl) (Nt (Cd (b := !r29) rfl (fun hb37 => ?_) (fun hb37 => ?_))))
 have h := ite_t hb37 h
 refine WC.exit (WQ.thenE (WQ.blockM rfl (WQ.leaveE x25 (oi h).symm (fun heq23 => ?_))))
 subst heq23
 have h := hK23
 refine WQ.blockH (Dr ?_)
 obtain rfl := oi h
 refine Tj ?_
 have hx25 := hx25.mono hle35
 exact ⟨vx25, cx25, (hle23.trans hle35), rfl, hs23_3, hx25⟩
 have h := ite_f hb37 h
 refine Ck (Tc (Sr (qM vx25 hs23_3 (qu (pt g28 0) (Fa fo108_0 rfl rfl) (qu (Sv r30) (Lb 0 pl9 rfl rfl rfl) (We (EO.buildSliceL (cl := [(Sv r30)]) Tryz.underlying120 iz9 rfl (Pc (Sv r30) rfl rfl Pz) rfl) rfl ?_))))))
 rintro _ _ _ - ⟨rfl, g38, rfl, rfl⟩
 have h40 : OwnS Kd.str M34 (.slice (some ⟨g38, 0, none⟩) 1 1) [r30] [(g38, .cells #[(Sv r30)] 9 (0, 0))] := OwnS.rows (css := [[(Sv r30)]]) (Rows.cons rfl Rows.nil) rfl rfl
 obtain ⟨hg44, h⟩ := grd_i h
 refine Wb ?_
 have hx25 := hx25.mono hle35
 refine We (EO.append (dd := Kd.str) (xs := x25) (ys := [r30]) Tryz.underlying120 Tryz.underlying120 in9 rfl (appB (by decide) hg44) (by decide) rfl rfl hx25 (h40.src 1 rfl)) rfl ?_
 rintro v43 _ _ - ⟨rfl, c41, rfl, h42⟩
 refine qa v43 (Nt (Cg (qu (pt g28 2) (Fa fo108_2 rfl rfl) (qu (GV r32) (Lb 2 pl31 rfl rfl rfl) (qa (GV r32) (Wz (Bn (Qa (Dr (Qa (Dr ?_)))))))))))
 exact WQ.again (r32, x25 ++ [r30]) (oi h).symm ⟨v43, c41, (hle23.trans hle35), rfl, rfl, rfl, h42⟩
 have h := ite_f hb27 h
 refine WC.exit (WQ.thenE (WQ.leaveE x25 (oi h).symm (fun heq23 => ?_)))
 subst heq23
 have h := hK23
 refine WQ.blockH ?_
 obtain rfl := oi h
 exact Tj ⟨vx25, cx25, hle23, rfl, hs23_3, hx25⟩
 rintro ρ22 M22 H22 ⟨vx21, cx21, hle22, rfl, hs22_3, hx21⟩
 exact Sr (qM vx21 hs22_3 (qa vx21 (Nt (Cr (Rf h [cx21] rfl (Rs rfl rfl) hle22 ⟨vx21, cx21, rfl, rfl, hx21⟩)))))

noncomputable def f_fault_Under_l0 (a1 : ByteArray) (r22 : (List ByteArray)) (s_ : Int) : Option (Int ⊕ (Unit ⊕ Unit)) :=
  match s_ with
  | x28 =>
    (if (decide (x28 < (r22.length : Int))) = true then (grd (0 ≤ x28 ∧ x28 < r22.length) (if (decide ((rd r22 x28) = a1)) = true then (some (Sum.inr (Sum.inr ()))) else (some (Sum.inl (IntKind.i64.wrap (x28 + (1 : Int))))))) else (some (Sum.inr (Sum.inl ()))))
noncomputable def f_fault_Under (a0 : GErr) (a1 : ByteArray) : Option Bool :=
  ((((f_fault_Path a0).bind fun r22 => ((iter (f_fault_Under_l0 a1 r22) (0 : Int)).bind (Sum.elim (fun _ => (some (Sum.inl ()))) (fun _ => (((some true)).bind fun r => some (Sum.inr r)))))) : Option (Unit ⊕ Bool)).bind (Sum.elim (fun _ => (some false)) some))
def f_fault_Under_post (a0 : GErr) (a1 : ByteArray) : Bool → Value → IM → HL → Prop :=
  fun (r0 : Bool) (v : Value) (M' : IM) (H' : HL) => (.bool r0) = v ∧ H' = []
theorem f_fault_Under_ok (a0 : GErr) (a1 : ByteArray) (M : IM) (hE : Env M) (res : Bool) (h : f_fault_Under a0 a1 = some res) :
    Tri Tryz.prog 46 #[(GV a0), (Sv a1)] M [] (f_fault_Under_post a0 a1 res) := by
 unfold f_fault_Under at h
 refine Te Tryz.func46 rfl rfl ?_
 intro F ρ hρ
 refine Sr (qa (Bv false) (Nt ?_))
 obtain ⟨j21, hj21, h⟩ := bnd h
 refine WC.joinE (fun (_ : Unit) ρ' M' H' => M.le M' ∧ F = H') j21 ?_ ?_
 have h321 := h
 have h := hj21
 refine Sr (qM (GV a0) (hρ 0) ?_)
 obtain ⟨r22, hr23, h⟩ := bnd h
 refine We (Ca co76 (f_fault_Path_ok a0 _ hE r22 hr23) (args1 rfl)) rfl ?_
 rintro _ M24 _ hle25 ⟨_, ⟨vq26, cq26, rfl, rfl, hq26⟩, rfl⟩
 refine WL.a1 (qu (Iv (r22.length : Int)) (PO.lenS Tryz.underlying120 rfl hq26.len) (qm (Iv 0) (Nt (Bk ?_))))
 obtain ⟨e27, he27, hK27⟩ := bnd h
 clear h
 refine WC.loop he27 (fun (x28 : Int) ρ' M' H' => M24.le M' ∧ cq26 :: F = H' ∧ ρ' 1 = (Sv a1) ∧ ρ' 8 = vq26 ∧ ρ' 9 = (Iv (r22.length : Int)) ∧ ρ' 10 = (Iv x28)) ?_ ?_
 exact ⟨lr, rfl, (hρ 1), rfl, rfl, rfl⟩
 rintro x28 o27 ρ27 M27 H27 h ⟨hle27, rfl, hs27_1, hs27_8, hs27_9, hs27_10⟩
 unfold f_fault_Under_l0 at h
 refine Sr (qu (Bv (decide (x28 < (r22.length : Int)))) (PO.lss hs27_10 hs27_9) (Nt (Cs (Cd (b := decide (x28 < (r22.length : Int))) rfl (fun hb29 => ?_) (fun hb29 => ?_)))))
 have h := ite_t hb29 h
 refine Ck (Tc (Cs (Bk (Sr ?_))))
 obtain ⟨hg30, h⟩ := grd_i h
 have hq26 := hq26.mono hle27
 obtain ⟨p31, cs32, hat33, hrc34, hhas35⟩ := hq26.at hg30.1 hg30.2
 obtain rfl := hrc34
 refine qu (.pointer (some p31)) (PO.indexAddr (n := r22.length) Tryz.underlying120 sz9 hs27_8 hs27_10 hg30.1 hg30.2 hat33) (qu (Sv (rd r22 x28)) (PO.loadC 0 pl9 rfl rfl (chunkHas0 hhas35)) (qa (Sv (rd r22 x28)) (Ns (qm (Sv (rd r22 x28)) (qM (Sv a1) hs27_1 (qu (Bv (decide ((rd r22 x28) = a1))) (PO.seql rfl rfl) (Nt (Cd (b := decide ((rd r22 x28) = a1)) rfl (fun hb37 => ?_) (fun hb37 => ?_)))))))))
 have h := ite_t hb37 h
 refine Sr (qa (Bv true) (Nt (Cr (Br (Tr (WQ.leaveR (Sum.inr ()) (oi h).symm (fun heq27 => ?_)))))))
 subst heq27
 have h := (elimR hK27)
 refine Br (Tr ?_)
 have h := KK.early h h321
 exact Dr (Rf h [] rfl (Rs rfl rfl) (hle25.trans hle27) ⟨rfl, rfl⟩)
 have h := ite_f hb37 h
 exact Ck (Bn (Tc (Cg (qu (Iv (IntKind.i64.wrap (x28 + 1))) (PO.add hs27_10 rfl) (qm (Iv (IntKind.i64.wrap (x28 + 1))) (Wz (WQ.again (IntKind.i64.wrap (x28 + 1)) (oi h).symm ⟨hle27, rfl, hs27_1, hs27_8, hs27_9, rfl⟩)))))))
 have h := ite_f hb29 h
 refine WC.exit (WQ.thenE (WQ.leaveE (Sum.inl ()) (oi h).symm (fun heq27 => ?_)))
 subst heq27
 have h := elimL hK27
 exact WQ.blockH (Dr (WQ.thenFE h ⟨(hle25.trans hle27), rfl⟩))
 rintro _ ρ21 M21 H21 rfl ⟨hle21, rfl⟩
 have h := (Sum.elim_inl _ _ _).symm.trans h
 exact Sr (qa (Bv false) (Nt (Cr (Rf h [] rfl (Rs rfl rfl) hle21 ⟨rfl, rfl⟩))))

noncomputable def f_law07_wrong (a0 : GErr) (a1 : T_ref06_Wrong) : Option Bool :=
  (if a0.isNil = true then (some (decide (a1.W.Code = (0 : Int)))) else ((f_fault_Where a0).bind fun (r23, r24) => ((((f_fault_Of a0).bind fun r32 => (if (decide (r32 = a1.W.Code)) = true then (if r24 = true then (if (decide (r23 = a1.W.At)) = true then ((f_fault_Under a0 a1.W.Op).bind fun r40 => (some r40)) else (some false)) else (some false)) else (some false))) : Option Bool).bind fun x30 => (some x30))))
def f_law07_wrong_post (a0 : GErr) (a1 : T_ref06_Wrong) : Bool → Value → IM → HL → Prop :=
  fun (r0 : Bool) (v : Value) (M' : IM) (H' : HL) => (.bool r0) = v ∧ H' = []
theorem f_law07_wrong_ok (a0 : GErr) (a1 : T_ref06_Wrong) (M : IM) (hE : Env M) (res : Bool) (h : f_law07_wrong a0 a1 = some res) :
    Tri Tryz.prog 15 #[(GV a0), (a42_ a1)] M [] (f_law07_wrong_post a0 a1 res) := by
 unfold f_law07_wrong at h
 refine Te Tryz.func15 rfl rfl ?_
 intro F ρ hρ
 refine Sr (We (EO.box (cs := (l42 a1).toArray) (congrArg Value.cells (asE (a42_ a1) (hρ 1)))) rfl ?_)
 rintro _ _ _ - ⟨rfl, g21, rfl, rfl⟩
 refine qa (Bv false) (Nt (Cs (Sr (qM (GV a0) (hρ 0) (qu (Bv a0.isNil) (PO.errNil Tryz.underlying31 rfl) (Nt (Cd (b := a0.isNil) rfl (fun hb22 => ?_) (fun hb22 => ?_))))))))
 have h := ite_t hb22 h
 exact Sr (qu (pt g21 0) (Fa fo42_0 rfl rfl) (qu (pt g21 2) (Fa fo40_2 rfl rfl) (qu (Iv a1.W.Code) (Lb 0 pl38 rfl rfl rfl) (qu (Bv (decide (a1.W.Code = 0))) (PO.eql rfl rfl) (qa (Bv (decide (a1.W.Code = 0))) (Nt (Cr (Tr (Dr (Rf h [] rfl (Rs rfl rfl) lr ⟨rfl, rfl⟩))))))))))
 have h := ite_f hb22 h
 refine Ck (Tc (Sr (qM (GV a0) (hρ 0) ?_)))
 obtain ⟨⟨r23, r24⟩, hr25, h⟩ := bnd h
 refine We (Ca co44 (f_fault_Where_ok a0 _ hE (r23, r24) hr25) (args1 rfl)) rfl ?_
 rintro _ M26 _ hle27 ⟨_, ⟨rfl, rfl⟩, rfl⟩
 refine WL.a0 (qm (.tuple #[(Iv r23), (Bv r24)]) (qu (Iv r23) (Xt rfl rfl) (qu (Bv r24) (Xt rfl rfl) (qa (Iv r23) (qa (Bv r24) (Nt ?_))))))
 obtain ⟨x30, hj31, h⟩ := bnd h
 refine Jf (fun (x30 : Bool) ρ' M' H' => M26.le M' ∧ [(g21, .cells (l42 a1).toArray 42 (0, 0))] :: F = H' ∧ ρ' 4 = (Bv x30)) x30 ?_ ?_
 have h := hj31
 refine WC.draw [0, 1, 0, 4, 12, 31, 63, 127, 255, 511, 1023, 1023, 3071, 7167, 16383, 32767, 65535, 131071, 131071, 393215, 917503, 2097151, 4194303, 8388607] (.pure 0 (.pure 2 (.pure 3 (.pure 4 (.alt 1 (.pure 5 (.pure 6 (.pure 7 (.pure 8 (.pure 9 (.pure 10 (.pure 11 (.pure 12 (.pure 13 (.pure 14 (.pure 15 (.pure 16 (.pure 17 (.pure 18 (.pure 19 (.pure 20 (.alt 21 (.pure 22 (.pure 23 .done)) .none))))))))))))))))) .none))))) mixed (by kernel_rfl) (qt (GV a0) rfl (Mv (hρ 0)) (qt (pt g21 0) rfl (Fa fo42_0 rfl rfl) (qt (pt g21 2) rfl (Fa fo40_2 rfl rfl) (qt (Iv a1.W.Code) rfl (Lb 0 pl38 rfl rfl rfl) ?_))))
 obtain ⟨r32, hr33, h⟩ := bnd h
 have hE := hE.mono hle27
 refine Ta rfl (Ca co45 (f_fault_Of_ok a0 _ hE r32 hr33) (args1 rfl)) rfl ?_ ?_
 rintro _ M34 _ hle35 ⟨_, ⟨rfl, rfl⟩, rfl⟩
 refine ⟨(Ss rfl (Lb 0 pl38 rfl rfl rfl) rfl (Ss rfl (Fa fo40_2 rfl rfl) rfl (Ss rfl (Fa fo42_0 rfl rfl) rfl (Sl rfl)))), ?_⟩
 refine WT.a0 (qt (Bv (decide (r32 = a1.W.Code))) rfl (PO.eql rfl rfl) (qt (Bv (decide (r32 = a1.W.Code))) rfl (Mv rfl) ?_))
 rcases Bt (decide (r32 = a1.W.Code)) with hb37 | hb37
 have h := ite_t hb37 h
 refine Tn (Bv r24) 24 rfl rfl rfl hb37 (Mv rfl) rfl (qt (Bv r24) rfl (Pt rfl hb37 rfl) (qt (Bv r24) rfl (Mv rfl) ?_))
 rcases Bt (r24) with hb38 | hb38
 have h := ite_t hb38 h
 refine Tn (Iv r23) 27 rfl rfl rfl hb38 (Mv rfl) rfl (Tn (pt g21 0) 27 rfl rfl rfl hb38 (Fa fo42_0 rfl rfl) rfl (Tn (pt g21 1) 27 rfl rfl rfl hb38 (Fa fo40_1 rfl rfl) rfl (Tn (Iv a1.W.At) 27 rfl rfl rfl hb38 (Lb 0 pl3 rfl rfl rfl) rfl (Tn (Bv (decide (r23 = a1.W.At))) 27 rfl rfl rfl hb38 (PO.eql rfl rfl) rfl (qt (Bv (decide (r23 = a1.W.At))) rfl (Pt rfl hb38 rfl) (qt (Bv (decide (r23 = a1.W.At))) rfl (Mv rfl) ?_))))))
 rcases Bt (decide (r23 = a1.W.At)) with hb39 | hb39
 have h := ite_t hb39 h
 refine Tn (GV a0) 34 rfl rfl rfl hb39 (Mv (hρ 0)) rfl (Tn (pt g21 0) 34 rfl rfl rfl hb39 (Fa fo42_0 rfl rfl) rfl (Tn (pt g21 0) 34 rfl rfl rfl hb39 (Fa fo40_0 rfl rfl) rfl (Tn (Sv a1.W.Op) 34 rfl rfl rfl hb39 (Lb 0 pl9 rfl rfl rfl) rfl ?_)))
 obtain ⟨r40, hr41, h⟩ := bnd h
 have hE := hE.mono hle35
 refine WT.altOn 34 rfl rfl rfl hb39 (Ca co46 (f_fault_Under_ok a0 a1.W.Op _ hE r40 hr41) (args2 rfl rfl)) rfl ?_ ?_
 rintro _ M42 _ hle43 ⟨_, ⟨rfl, rfl⟩, rfl⟩
 refine ⟨(Sl rfl), ?_⟩
 refine WT.a0 (qt (Bv r40) rfl (Pt rfl hb39 rfl) (qt (Bv r40) rfl (Ag rfl) (Ti ?_)))
 obtain rfl := oi h
 exact Tj ⟨(hle35.trans hle43), rfl, rfl⟩
 exact Tz
 have h := ite_f hb39 h
 refine Tf 34 rfl rfl rfl hb39 rfl (Tf 34 rfl rfl rfl hb39 rfl (Tf 34 rfl rfl rfl hb39 rfl (Tf 34 rfl rfl rfl hb39 rfl (Tg 34 rfl rfl rfl hb39 rfl ⟨(Sl rfl), ?_⟩ ?_))))
 refine qt (Bv false) rfl (Pf rfl hb39 rfl) (qt (Bv false) rfl (Ag rfl) (Ti ?_))
 obtain rfl := oi h
 exact Tj ⟨hle35, rfl, rfl⟩
 exact Tz
 have h := ite_f hb38 h
 refine Tf 27 rfl rfl rfl hb38 rfl (Tf 27 rfl rfl rfl hb38 rfl (Tf 27 rfl rfl rfl hb38 rfl (Tf 27 rfl rfl rfl hb38 rfl (Tf 27 rfl rfl rfl hb38 rfl (qt (Bv false) rfl (Pf rfl hb38 rfl) (qt (Bv false) rfl (Mv rfl) (Tf 34 rfl rfl rfl rfl rfl (Tf 34 rfl rfl rfl rfl rfl (Tf 34 rfl rfl rfl rfl rfl (Tf 34 rfl rfl rfl rfl rfl (Tg 34 rfl rfl rfl rfl rfl ⟨(Sl rfl), ?_⟩ ?_)))))))))))
 refine qt (Bv false) rfl (Pf rfl rfl rfl) (qt (Bv false) rfl (Ag rfl) (Ti ?_))
 obtain rfl := oi h
 exact Tj ⟨hle35, rfl, rfl⟩
 exact Tz
 have h := ite_f hb37 h
 refine Tf 24 rfl rfl rfl hb37 rfl (qt (Bv false) rfl (Pf rfl hb37 rfl) (qt (Bv false) rfl (Mv rfl) (Tf 27 rfl rfl rfl rfl rfl (Tf 27 rfl rfl rfl rfl rfl (Tf 27 rfl rfl rfl rfl rfl (Tf 27 rfl rfl rfl rfl rfl (Tf 27 rfl rfl rfl rfl rfl (qt (Bv false) rfl (Pf rfl rfl rfl) (qt (Bv false) rfl (Mv rfl) (Tf 34 rfl rfl rfl rfl rfl (Tf 34 rfl rfl rfl rfl rfl ?_)))))))))))
 refine Tf 34 rfl rfl rfl rfl rfl (Tf 34 rfl rfl rfl rfl rfl (Tg 34 rfl rfl rfl rfl rfl ⟨(Sl rfl), ?_⟩ ?_))
 refine qt (Bv false) rfl (Pf rfl rfl rfl) (qt (Bv false) rfl (Ag rfl) (Ti ?_))
 obtain rfl := oi h
 exact Tj ⟨hle35, rfl, rfl⟩
 exact Tz
 exact Tz
 rintro ρ31 M31 H31 ⟨hle31, rfl, hs31_4⟩
 exact Cr (Dr (Rf h [] rfl (Rs rfl hs31_4) (hle27.trans hle31) ⟨rfl, rfl⟩))

noncomputable def f_ref02_Same_l0 (a0 : (List Int)) (a1 : (List Int)) (s_ : Int) : Option (Int ⊕ (Unit ⊕ Unit)) :=
  match s_ with
  | x24 =>
    (if (decide (x24 < (a0.length : Int))) = true then (grd (0 ≤ x24 ∧ x24 < a0.length) (grd (0 ≤ x24 ∧ x24 < a1.length) (if (decide ((rd a0 x24) ≠ (rd a1 x24))) = true then (some (Sum.inr (Sum.inr ()))) else (some (Sum.inl (IntKind.i64.wrap (x24 + (1 : Int)))))))) else (some (Sum.inr (Sum.inl ()))))
noncomputable def f_ref02_Same (a0 : (List Int)) (a1 : (List Int)) : Option Bool :=
  (if (decide ((a0.length : Int) ≠ (a1.length : Int))) = true then (some false) else ((((iter (f_ref02_Same_l0 a0 a1) (0 : Int)).bind (Sum.elim (fun _ => (some (Sum.inl ()))) (fun _ => (((some false)).bind fun r => some (Sum.inr r))))) : Option (Unit ⊕ Bool)).bind (Sum.elim (fun _ => (some true)) some)))
def f_ref02_Same_post (a0 : (List Int)) (a1 : (List Int)) (v0 v1 : Value) : Bool → Value → IM → HL → Prop :=
  fun (r0 : Bool) (v : Value) (M' : IM) (H' : HL) => (.bool r0) = v ∧ H' = []
theorem f_ref02_Same_ok (a0 : (List Int)) (a1 : (List Int)) (M : IM) (v0 v1 : Value) (h0 : RS (Kd.int .u8) M v0 a0) (h1 : RS (Kd.int .u8) M v1 a1) (res : Bool) (h : f_ref02_Same a0 a1 = some res) :
    Tri Tryz.prog 13 #[v0, v1] M [] (f_ref02_Same_post a0 a1 v0 v1 res) := by
 unfold f_ref02_Same at h
 refine Te Tryz.func13 rfl rfl ?_
 intro F ρ hρ
 refine Sr (qa (Bv false) (Nt (Cs (Sr (qM v0 (hρ 0) (qu (Iv (a0.length : Int)) (PO.lenS Tryz.underlying23 rfl h0.len) (qM v1 (hρ 1) (qu (Iv (a1.length : Int)) (PO.lenS Tryz.underlying23 rfl h1.len) (qu (Bv (decide ((a0.length : Int) ≠ (a1.length : Int)))) (PO.neq rfl rfl) (Nt (Cd (b := decide ((a0.length : Int) ≠ (a1.length : Int))) rfl (fun hb21 => ?_) (fun hb21 => ?_))))))))))))
 have h := ite_t hb21 h
 exact Sr (qa (Bv false) (Nt (Cr (Tr (Rf h [] rfl (Rs rfl rfl) lr ⟨rfl, rfl⟩)))))
 have h := ite_f hb21 h
 refine Ck (Tc ?_)
 obtain ⟨j22, hj22, h⟩ := bnd h
 refine WC.joinE (fun (_ : Unit) ρ' M' H' => M.le M' ∧ F = H') j22 ?_ ?_
 have h322 := h
 have h := hj22
 refine Sr (qa (Iv 0) (Nt (Bk ?_)))
 obtain ⟨e23, he23, hK23⟩ := bnd h
 clear h
 refine WC.loop he23 (fun (x24 : Int) ρ' M' H' => M.le M' ∧ F = H' ∧ ρ' 0 = v0 ∧ ρ' 1 = v1 ∧ ρ' 5 = (Iv x24)) ?_ ?_
 exact ⟨lr, rfl, (hρ 0), (hρ 1), rfl⟩
 rintro x24 o23 ρ23 M23 H23 h ⟨hle23, rfl, hs23_0, hs23_1, hs23_5⟩
 unfold f_ref02_Same_l0 at h
 refine Cs (Sr (qM (Iv x24) hs23_5 (qM v0 hs23_0 ?_)))
 have h0 := h0.mono hle23
 refine qu (Iv (a0.length : Int)) (PO.lenS Tryz.underlying23 rfl h0.len) (qu (Bv (decide (x24 < (a0.length : Int)))) (PO.lss rfl rfl) (Nt (Cd (b := decide (x24 < (a0.length : Int))) rfl (fun hb25 => ?_) (fun hb25 => ?_))))
 have h := ite_t hb25 h
 refine Ck (Tc (Cs (Bk (Cs (WC.draw [0, 0, 3, 7, 0, 0, 48, 112, 255] (.pure 0 (.pure 1 (.pure 2 (.pure 3 (.pure 4 (.pure 5 (.pure 6 (.pure 7 (.pure 8 .done))))))))) mixed (by kernel_rfl) (qt v0 rfl (Mv hs23_0) (qt (Iv x24) rfl (Mv hs23_5) ?_)))))))
 obtain ⟨hg26, h⟩ := grd_i h
 obtain ⟨p27, cs28, hat29, hrc30, hhas31⟩ := h0.at hg26.1 hg26.2 (by decide)
 obtain rfl := hrc30
 refine qt (.pointer (some p27)) rfl (PO.indexAddr (n := a0.length) Tryz.underlying23 sz5 rfl rfl hg26.1 hg26.2 hat29) (qt (Yv (rd a0 x24)) rfl (PO.loadM pl5 rfl (IM.has0 hhas31)) (qt v1 rfl (Mv hs23_1) (qt (Iv x24) rfl (Mv hs23_5) ?_)))
 obtain ⟨hg33, h⟩ := grd_i h
 have h1 := h1.mono hle23
 obtain ⟨p34, cs35, hat36, hrc37, hhas38⟩ := h1.at hg33.1 hg33.2 (by decide)
 obtain rfl := hrc37
 refine qt (.pointer (some p34)) rfl (PO.indexAddr (n := a1.length) Tryz.underlying23 sz5 rfl rfl hg33.1 hg33.2 hat36) (qt (Yv (rd a1 x24)) rfl (PO.loadM pl5 rfl (IM.has0 hhas38)) (qt (Bv (decide ((rd a0 x24) ≠ (rd a1 x24)))) rfl (PO.neq rfl rfl) (Ti (Tc (Cd (b := decide ((rd a0 x24) ≠ (rd a1 x24))) rfl (fun hb40 => ?_) (fun hb40 => ?_))))))
 have h := ite_t hb40 h
 refine Sr (qa (Bv false) (Nt (Cr (Br (Tr (WQ.leaveR (Sum.inr ()) (oi h).symm (fun heq23 => ?_)))))))
 subst heq23
 have h := (elimR hK23)
 refine Br (Tr ?_)
 have h := KK.early h h322
 exact Rf h [] rfl (Rs rfl rfl) hle23 ⟨rfl, rfl⟩
 have h := ite_f hb40 h
 exact Ck (Bn (Tc (Cg (qM (Iv x24) hs23_5 (qu (Iv (IntKind.i64.wrap (x24 + 1))) (PO.add rfl rfl) (qa (Iv (IntKind.i64.wrap (x24 + 1))) (Wz (WQ.again (IntKind.i64.wrap (x24 + 1)) (oi h).symm ⟨hle23, rfl, hs23_0, hs23_1, rfl⟩))))))))
 have h := ite_f hb25 h
 refine WC.exit (WQ.thenE (WQ.leaveE (Sum.inl ()) (oi h).symm (fun heq23 => ?_)))
 subst heq23
 have h := elimL hK23
 exact WQ.blockH (WQ.thenFE h ⟨hle23, rfl⟩)
 rintro _ ρ22 M22 H22 rfl ⟨hle22, rfl⟩
 have h := (Sum.elim_inl _ _ _).symm.trans h
 exact Sr (qa (Bv true) (Nt (Cr (Rf h [] rfl (Rs rfl rfl) hle22 ⟨rfl, rfl⟩))))

noncomputable def f_ref02_Ints_l0 (a0 : (List Int)) (a1 : (List Int)) (s_ : Int) : Option (Int ⊕ (Unit ⊕ Unit)) :=
  match s_ with
  | x24 =>
    (if (decide (x24 < (a0.length : Int))) = true then (grd (0 ≤ x24 ∧ x24 < a0.length) (grd (0 ≤ x24 ∧ x24 < a1.length) (if (decide ((rd a0 x24) ≠ (rd a1 x24))) = true then (some (Sum.inr (Sum.inr ()))) else (some (Sum.inl (IntKind.i64.wrap (x24 + (1 : Int)))))))) else (some (Sum.inr (Sum.inl ()))))
noncomputable def f_ref02_Ints (a0 : (List Int)) (a1 : (List Int)) : Option Bool :=
  (if (decide ((a0.length : Int) ≠ (a1.length : Int))) = true then (some false) else ((((iter (f_ref02_Ints_l0 a0 a1) (0 : Int)).bind (Sum.elim (fun _ => (some (Sum.inl ()))) (fun _ => (((some false)).bind fun r => some (Sum.inr r))))) : Option (Unit ⊕ Bool)).bind (Sum.elim (fun _ => (some true)) some)))
def f_ref02_Ints_post (a0 : (List Int)) (a1 : (List Int)) (v0 v1 : Value) : Bool → Value → IM → HL → Prop :=
  fun (r0 : Bool) (v : Value) (M' : IM) (H' : HL) => (.bool r0) = v ∧ H' = []
theorem f_ref02_Ints_ok (a0 : (List Int)) (a1 : (List Int)) (M : IM) (v0 v1 : Value) (h0 : RS (Kd.int .i64) M v0 a0) (h1 : RS (Kd.int .i64) M v1 a1) (res : Bool) (h : f_ref02_Ints a0 a1 = some res) :
    Tri Tryz.prog 133 #[v0, v1] M [] (f_ref02_Ints_post a0 a1 v0 v1 res) := by
 unfold f_ref02_Ints at h
 refine Te Tryz.func133 rfl rfl ?_
 intro F ρ hρ
 refine Sr (qa (Bv false) (Nt (Cs (Sr (qM v0 (hρ 0) (qu (Iv (a0.length : Int)) (PO.lenS Tryz.underlying56 rfl h0.len) (qM v1 (hρ 1) (qu (Iv (a1.length : Int)) (PO.lenS Tryz.underlying56 rfl h1.len) (qu (Bv (decide ((a0.length : Int) ≠ (a1.length : Int)))) (PO.neq rfl rfl) (Nt (Cd (b := decide ((a0.length : Int) ≠ (a1.length : Int))) rfl (fun hb21 => ?_) (fun hb21 => ?_))))))))))))
 have h := ite_t hb21 h
 exact Sr (qa (Bv false) (Nt (Cr (Tr (Rf h [] rfl (Rs rfl rfl) lr ⟨rfl, rfl⟩)))))
 have h := ite_f hb21 h
 refine Ck (Tc ?_)
 obtain ⟨j22, hj22, h⟩ := bnd h
 refine WC.joinE (fun (_ : Unit) ρ' M' H' => M.le M' ∧ F = H') j22 ?_ ?_
 have h322 := h
 have h := hj22
 refine Sr (qa (Iv 0) (Nt (Bk ?_)))
 obtain ⟨e23, he23, hK23⟩ := bnd h
 clear h
 refine WC.loop he23 (fun (x24 : Int) ρ' M' H' => M.le M' ∧ F = H' ∧ ρ' 0 = v0 ∧ ρ' 1 = v1 ∧ ρ' 5 = (Iv x24)) ?_ ?_
 exact ⟨lr, rfl, (hρ 0), (hρ 1), rfl⟩
 rintro x24 o23 ρ23 M23 H23 h ⟨hle23, rfl, hs23_0, hs23_1, hs23_5⟩
 unfold f_ref02_Ints_l0 at h
 refine Cs (Sr (qM (Iv x24) hs23_5 (qM v0 hs23_0 ?_)))
 have h0 := h0.mono hle23
 refine qu (Iv (a0.length : Int)) (PO.lenS Tryz.underlying56 rfl h0.len) (qu (Bv (decide (x24 < (a0.length : Int)))) (PO.lss rfl rfl) (Nt (Cd (b := decide (x24 < (a0.length : Int))) rfl (fun hb25 => ?_) (fun hb25 => ?_))))
 have h := ite_t hb25 h
 refine Ck (Tc (Cs (Bk (Cs (WC.draw [0, 0, 3, 7, 0, 0, 48, 112, 255] (.pure 0 (.pure 1 (.pure 2 (.pure 3 (.pure 4 (.pure 5 (.pure 6 (.pure 7 (.pure 8 .done))))))))) mixed (by kernel_rfl) (qt v0 rfl (Mv hs23_0) (qt (Iv x24) rfl (Mv hs23_5) ?_)))))))
 obtain ⟨hg26, h⟩ := grd_i h
 obtain ⟨p27, cs28, hat29, hrc30, hhas31⟩ := h0.at hg26.1 hg26.2 (by decide)
 obtain rfl := hrc30
 refine qt (.pointer (some p27)) rfl (PO.indexAddr (n := a0.length) Tryz.underlying56 sz3 rfl rfl hg26.1 hg26.2 hat29) (qt (Iv (rd a0 x24)) rfl (PO.loadM pl3 rfl (IM.has0 hhas31)) (qt v1 rfl (Mv hs23_1) (qt (Iv x24) rfl (Mv hs23_5) ?_)))
 obtain ⟨hg33, h⟩ := grd_i h
 have h1 := h1.mono hle23
 obtain ⟨p34, cs35, hat36, hrc37, hhas38⟩ := h1.at hg33.1 hg33.2 (by decide)
 obtain rfl := hrc37
 refine qt (.pointer (some p34)) rfl (PO.indexAddr (n := a1.length) Tryz.underlying56 sz3 rfl rfl hg33.1 hg33.2 hat36) (qt (Iv (rd a1 x24)) rfl (PO.loadM pl3 rfl (IM.has0 hhas38)) (qt (Bv (decide ((rd a0 x24) ≠ (rd a1 x24)))) rfl (PO.neq rfl rfl) (Ti (Tc (Cd (b := decide ((rd a0 x24) ≠ (rd a1 x24))) rfl (fun hb40 => ?_) (fun hb40 => ?_))))))
 have h := ite_t hb40 h
 refine Sr (qa (Bv false) (Nt (Cr (Br (Tr (WQ.leaveR (Sum.inr ()) (oi h).symm (fun heq23 => ?_)))))))
 subst heq23
 have h := (elimR hK23)
 refine Br (Tr ?_)
 have h := KK.early h h322
 exact Rf h [] rfl (Rs rfl rfl) hle23 ⟨rfl, rfl⟩
 have h := ite_f hb40 h
 exact Ck (Bn (Tc (Cg (qM (Iv x24) hs23_5 (qu (Iv (IntKind.i64.wrap (x24 + 1))) (PO.add rfl rfl) (qa (Iv (IntKind.i64.wrap (x24 + 1))) (Wz (WQ.again (IntKind.i64.wrap (x24 + 1)) (oi h).symm ⟨hle23, rfl, hs23_0, hs23_1, rfl⟩))))))))
 have h := ite_f hb25 h
 refine WC.exit (WQ.thenE (WQ.leaveE (Sum.inl ()) (oi h).symm (fun heq23 => ?_)))
 subst heq23
 have h := elimL hK23
 exact WQ.blockH (WQ.thenFE h ⟨hle23, rfl⟩)
 rintro _ ρ22 M22 H22 rfl ⟨hle22, rfl⟩
 have h := (Sum.elim_inl _ _ _).symm.trans h
 exact Sr (qa (Bv true) (Nt (Cr (Rf h [] rfl (Rs rfl rfl) hle22 ⟨rfl, rfl⟩))))

noncomputable def f_ref05_Same (a0 : T_api_Record) (a1 : T_api_Record) : Option Bool :=
  (((if (decide (a0.Kind ≠ a1.Kind)) = true then (some true) else (if (decide (a0.Broker ≠ a1.Broker)) = true then (some true) else (if (decide (a0.Epoch ≠ a1.Epoch)) = true then (some true) else (if (decide (a0.Topic ≠ a1.Topic)) = true then (some true) else (if (decide (a0.Part ≠ a1.Part)) = true then (some true) else (some (decide (a0.Leader ≠ a1.Leader)))))))) : Option Bool).bind fun x23 => (if x23 = true then (some false) else (((if (decide (a0.Client ≠ a1.Client)) = true then (some true) else (if (decide (a0.Serial ≠ a1.Serial)) = true then (some true) else (if (decide (a0.Code ≠ a1.Code)) = true then (some true) else (some (!(a0.Flag == a1.Flag)))))) : Option Bool).bind fun x31 => (if x31 = true then (some false) else (((if (!decide (a0.Name = a1.Name)) = true then (some true) else (if (!decide (a0.Key = a1.Key)) = true then (some true) else (if (!decide (a0.Value = a1.Value)) = true then (some true) else (some (!decide (a0.Rack = a1.Rack)))))) : Option Bool).bind fun x37 => (if x37 = true then (some false) else ((((f_ref02_Ints a0.Ids a1.Ids).bind fun r45 => (if r45 = true then ((f_ref02_Ints a0.Isr a1.Isr).bind fun r51 => (some r51)) else (some false))) : Option Bool).bind fun x43 => (((if x43 = true then ((f_ref02_Ints a0.Add a1.Add).bind fun r59 => (if r59 = true then ((f_ref02_Ints a0.Drop a1.Drop).bind fun r65 => (some r65)) else (some false))) else (some false)) : Option Bool).bind fun x56 => (some x56)))))))))
def f_ref05_Same_post (a0 : T_api_Record) (a1 : T_api_Record) (v0_14 v0_15 v0_16 v0_17 v1_14 v1_15 v1_16 v1_17 : Value) : Bool → Value → IM → HL → Prop :=
  fun (r0 : Bool) (v : Value) (M' : IM) (H' : HL) => (.bool r0) = v ∧ H' = []
theorem f_ref05_Same_ok (a0 : T_api_Record) (a1 : T_api_Record) (M : IM) (v0_14 v0_15 v0_16 v0_17 v1_14 v1_15 v1_16 v1_17 : Value) (h0_14 : RS (Kd.int .i64) M v0_14 a0.Ids) (h0_15 : RS (Kd.int .i64) M v0_15 a0.Isr) (h0_16 : RS (Kd.int .i64) M v0_16 a0.Add) (h0_17 : RS (Kd.int .i64) M v0_17 a0.Drop) (h1_14 : RS (Kd.int .i64) M v1_14 a1.Ids) (h1_15 : RS (Kd.int .i64) M v1_15 a1.Isr) (h1_16 : RS (Kd.int .i64) M v1_16 a1.Add) (h1_17 : RS (Kd.int .i64) M v1_17 a1.Drop) (res : Bool) (h : f_ref05_Same a0 a1 = some res) :
    Tri Tryz.prog 103 #[(a58_ a0 v0_14 v0_15 v0_16 v0_17), (a58_ a1 v1_14 v1_15 v1_16 v1_17)] M [] (f_ref05_Same_post a0 a1 v0_14 v0_15 v0_16 v0_17 v1_14 v1_15 v1_16 v1_17 res) := by
 unfold f_ref05_Same at h
 refine Te Tryz.func103 rfl rfl ?_
 intro F ρ hρ
 refine Sr (We (EO.box (cs := (l58 a0 v0_14 v0_15 v0_16 v0_17).toArray) (congrArg Value.cells (asE (a58_ a0 v0_14 v0_15 v0_16 v0_17) (hρ 0)))) rfl ?_)
 rintro _ _ _ - ⟨rfl, g21, rfl, rfl⟩
 refine We (EO.box (cs := (l58 a1 v1_14 v1_15 v1_16 v1_17).toArray) (congrArg Value.cells (asE (a58_ a1 v1_14 v1_15 v1_16 v1_17) (hρ 1)))) rfl ?_
 rintro _ _ _ - ⟨rfl, g22, rfl, rfl⟩
 refine qa (Bv false) (Nt (Cs ?_))
 obtain ⟨x23, hj24, h⟩ := bnd h
 refine Jf (fun (x23 : Bool) ρ' M' H' => M.le M' ∧ [(g22, .cells (l58 a1 v1_14 v1_15 v1_16 v1_17).toArray 58 (0, 0))] :: [(g21, .cells (l58 a0 v0_14 v0_15 v0_16 v0_17).toArray 58 (0, 0))] :: F = H' ∧ ρ' 2 = (pt g21 0) ∧ ρ' 3 = (pt g22 0) ∧ ρ' 45 = (Bv x23)) x23 ?_ ?_
 have h := hj24
 refine Cg (qu (pt g21 0) (Fa fo58_0 rfl rfl) (qu (Iv a0.Kind) (Lb 1 pl3 rfl rfl rfl) (qu (pt g22 0) (Fa fo58_0 rfl rfl) (qu (Iv a1.Kind) (Lb 0 pl3 rfl rfl rfl) (qu (Bv (decide (a0.Kind ≠ a1.Kind))) (PO.neq rfl rfl) (qm (Bv (decide (a0.Kind ≠ a1.Kind))) ?_))))))
 rcases Bt (decide (a0.Kind ≠ a1.Kind)) with hb25 | hb25
 have h := ite_t hb25 h
 iterate 5 refine Of 11 rfl rfl hb25 rfl ?_
 refine qu (Bv true) (Pt rfl hb25 rfl) (qm (Bv true) ?_)
 iterate 5 refine Of 18 rfl rfl rfl rfl ?_
 refine qu (Bv true) (Pt rfl rfl rfl) (qm (Bv true) ?_)
 iterate 5 refine Of 25 rfl rfl rfl rfl ?_
 refine qu (Bv true) (Pt rfl rfl rfl) (qm (Bv true) ?_)
 iterate 5 refine Of 32 rfl rfl rfl rfl ?_
 refine qu (Bv true) (Pt rfl rfl rfl) (qm (Bv true) ?_)
 iterate 5 refine Of 39 rfl rfl rfl rfl ?_
 refine qu (Bv true) (Pt rfl rfl rfl) (Wz ?_)
 obtain rfl := oi h
 exact Tj ⟨lr, rfl, rfl, rfl, rfl⟩
 have h := ite_f hb25 h
 refine qo 11 hb25 (pt g21 1) (Fa fo58_1 rfl rfl) (qo 11 hb25 (Iv a0.Broker) (Lb 1 pl3 rfl rfl rfl) (qo 11 hb25 (pt g22 1) (Fa fo58_1 rfl rfl) (qo 11 hb25 (Iv a1.Broker) (Lb 0 pl3 rfl rfl rfl) (qo 11 hb25 (Bv (decide (a0.Broker ≠ a1.Broker))) (PO.neq rfl rfl) (qu (Bv (decide (a0.Broker ≠ a1.Broker))) (Pf rfl hb25 rfl) (qm (Bv (decide (a0.Broker ≠ a1.Broker))) ?_))))))
 rcases Bt (decide (a0.Broker ≠ a1.Broker)) with hb26 | hb26
 have h := ite_t hb26 h
 iterate 5 refine Of 18 rfl rfl hb26 rfl ?_
 refine qu (Bv true) (Pt rfl hb26 rfl) (qm (Bv true) ?_)
 iterate 5 refine Of 25 rfl rfl rfl rfl ?_
 refine qu (Bv true) (Pt rfl rfl rfl) (qm (Bv true) ?_)
 iterate 5 refine Of 32 rfl rfl rfl rfl ?_
 refine qu (Bv true) (Pt rfl rfl rfl) (qm (Bv true) ?_)
 iterate 5 refine Of 39 rfl rfl rfl rfl ?_
 refine qu (Bv true) (Pt rfl rfl rfl) (Wz ?_)
 obtain rfl := oi h
 exact Tj ⟨lr, rfl, rfl, rfl, rfl⟩
 have h := ite_f hb26 h
 refine qo 18 hb26 (pt g21 2) (Fa fo58_2 rfl rfl) (qo 18 hb26 (Iv a0.Epoch) (Lb 1 pl3 rfl rfl rfl) (qo 18 hb26 (pt g22 2) (Fa fo58_2 rfl rfl) (qo 18 hb26 (Iv a1.Epoch) (Lb 0 pl3 rfl rfl rfl) (qo 18 hb26 (Bv (decide (a0.Epoch ≠ a1.Epoch))) (PO.neq rfl rfl) (qu (Bv (decide (a0.Epoch ≠ a1.Epoch))) (Pf rfl hb26 rfl) (qm (Bv (decide (a0.Epoch ≠ a1.Epoch))) ?_))))))
 rcases Bt (decide (a0.Epoch ≠ a1.Epoch)) with hb27 | hb27
 have h := ite_t hb27 h
 iterate 5 refine Of 25 rfl rfl hb27 rfl ?_
 refine qu (Bv true) (Pt rfl hb27 rfl) (qm (Bv true) ?_)
 iterate 5 refine Of 32 rfl rfl rfl rfl ?_
 refine qu (Bv true) (Pt rfl rfl rfl) (qm (Bv true) ?_)
 iterate 5 refine Of 39 rfl rfl rfl rfl ?_
 refine qu (Bv true) (Pt rfl rfl rfl) (Wz ?_)
 obtain rfl := oi h
 exact Tj ⟨lr, rfl, rfl, rfl, rfl⟩
 have h := ite_f hb27 h
 refine qo 25 hb27 (pt g21 3) (Fa fo58_3 rfl rfl) (qo 25 hb27 (Iv a0.Topic) (Lb 1 pl3 rfl rfl rfl) (qo 25 hb27 (pt g22 3) (Fa fo58_3 rfl rfl) (qo 25 hb27 (Iv a1.Topic) (Lb 0 pl3 rfl rfl rfl) (qo 25 hb27 (Bv (decide (a0.Topic ≠ a1.Topic))) (PO.neq rfl rfl) (qu (Bv (decide (a0.Topic ≠ a1.Topic))) (Pf rfl hb27 rfl) (qm (Bv (decide (a0.Topic ≠ a1.Topic))) ?_))))))
 rcases Bt (decide (a0.Topic ≠ a1.Topic)) with hb28 | hb28
 have h := ite_t hb28 h
 iterate 5 refine Of 32 rfl rfl hb28 rfl ?_
 refine qu (Bv true) (Pt rfl hb28 rfl) (qm (Bv true) ?_)
 iterate 5 refine Of 39 rfl rfl rfl rfl ?_
 refine qu (Bv true) (Pt rfl rfl rfl) (Wz ?_)
 obtain rfl := oi h
 exact Tj ⟨lr, rfl, rfl, rfl, rfl⟩
 have h := ite_f hb28 h
 refine qo 32 hb28 (pt g21 4) (Fa fo58_4 rfl rfl) (qo 32 hb28 (Iv a0.Part) (Lb 1 pl3 rfl rfl rfl) (qo 32 hb28 (pt g22 4) (Fa fo58_4 rfl rfl) (qo 32 hb28 (Iv a1.Part) (Lb 0 pl3 rfl rfl rfl) (qo 32 hb28 (Bv (decide (a0.Part ≠ a1.Part))) (PO.neq rfl rfl) (qu (Bv (decide (a0.Part ≠ a1.Part))) (Pf rfl hb28 rfl) (qm (Bv (decide (a0.Part ≠ a1.Part))) ?_))))))
 rcases Bt (decide (a0.Part ≠ a1.Part)) with hb29 | hb29
 have h := ite_t hb29 h
 iterate 5 refine Of 39 rfl rfl hb29 rfl ?_
 refine qu (Bv true) (Pt rfl hb29 rfl) (Wz ?_)
 obtain rfl := oi h
 exact Tj ⟨lr, rfl, rfl, rfl, rfl⟩
 have h := ite_f hb29 h
 refine qo 39 hb29 (pt g21 5) (Fa fo58_5 rfl rfl) (qo 39 hb29 (Iv a0.Leader) (Lb 1 pl3 rfl rfl rfl) (qo 39 hb29 (pt g22 5) (Fa fo58_5 rfl rfl) (qo 39 hb29 (Iv a1.Leader) (Lb 0 pl3 rfl rfl rfl) (qo 39 hb29 (Bv (decide (a0.Leader ≠ a1.Leader))) (PO.neq rfl rfl) (qu (Bv (decide (a0.Leader ≠ a1.Leader))) (Pf rfl hb29 rfl) (Wz ?_))))))
 obtain rfl := oi h
 exact Tj ⟨lr, rfl, rfl, rfl, rfl⟩
 rintro ρ24 M24 H24 ⟨hle24, rfl, hs24_2, hs24_3, hs24_45⟩
 refine Cd (b := x23) hs24_45 (fun hb30 => ?_) (fun hb30 => ?_)
 have h := ite_t hb30 h
 exact Sr (qa (Bv false) (Nt (Cr (Tr (Dr (Dr (Rf h [] rfl (Rs rfl rfl) hle24 ⟨rfl, rfl⟩)))))))
 have h := ite_f hb30 h
 refine Ck (Tc (Cs ?_))
 obtain ⟨x31, hj32, h⟩ := bnd h
 refine Jf (fun (x31 : Bool) ρ' M' H' => M24.le M' ∧ [(g22, .cells (l58 a1 v1_14 v1_15 v1_16 v1_17).toArray 58 (0, 0))] :: [(g21, .cells (l58 a0 v0_14 v0_15 v0_16 v0_17).toArray 58 (0, 0))] :: F = H' ∧ ρ' 2 = (pt g21 0) ∧ ρ' 3 = (pt g22 0) ∧ ρ' 71 = (Bv x31)) x31 ?_ ?_
 have h := hj32
 refine Cg (qu (pt g21 6) (Fa fo58_6 hs24_2 rfl) (qu (Iv a0.Client) (Lb 1 pl3 rfl rfl rfl) (qu (pt g22 6) (Fa fo58_6 hs24_3 rfl) (qu (Iv a1.Client) (Lb 0 pl3 rfl rfl rfl) (qu (Bv (decide (a0.Client ≠ a1.Client))) (PO.neq rfl rfl) (qm (Bv (decide (a0.Client ≠ a1.Client))) ?_))))))
 rcases Bt (decide (a0.Client ≠ a1.Client)) with hb33 | hb33
 have h := ite_t hb33 h
 iterate 5 refine Of 51 rfl rfl hb33 rfl ?_
 refine qu (Bv true) (Pt rfl hb33 rfl) (qm (Bv true) ?_)
 iterate 5 refine Of 58 rfl rfl rfl rfl ?_
 refine qu (Bv true) (Pt rfl rfl rfl) (qm (Bv true) ?_)
 iterate 5 refine Of 65 rfl rfl rfl rfl ?_
 refine qu (Bv true) (Pt rfl rfl rfl) (Wz ?_)
 obtain rfl := oi h
 exact Tj ⟨lr, rfl, hs24_2, hs24_3, rfl⟩
 have h := ite_f hb33 h
 refine qo 51 hb33 (pt g21 7) (Fa fo58_7 hs24_2 rfl) (qo 51 hb33 (Iv a0.Serial) (Lb 1 pl3 rfl rfl rfl) (qo 51 hb33 (pt g22 7) (Fa fo58_7 hs24_3 rfl) (qo 51 hb33 (Iv a1.Serial) (Lb 0 pl3 rfl rfl rfl) (qo 51 hb33 (Bv (decide (a0.Serial ≠ a1.Serial))) (PO.neq rfl rfl) (qu (Bv (decide (a0.Serial ≠ a1.Serial))) (Pf rfl hb33 rfl) (qm (Bv (decide (a0.Serial ≠ a1.Serial))) ?_))))))
 rcases Bt (decide (a0.Serial ≠ a1.Serial)) with hb34 | hb34
 have h := ite_t hb34 h
 iterate 5 refine Of 58 rfl rfl hb34 rfl ?_
 refine qu (Bv true) (Pt rfl hb34 rfl) (qm (Bv true) ?_)
 iterate 5 refine Of 65 rfl rfl rfl rfl ?_
 refine qu (Bv true) (Pt rfl rfl rfl) (Wz ?_)
 obtain rfl := oi h
 exact Tj ⟨lr, rfl, hs24_2, hs24_3, rfl⟩
 have h := ite_f hb34 h
 refine qo 58 hb34 (pt g21 8) (Fa fo58_8 hs24_2 rfl) (qo 58 hb34 (Iv a0.Code) (Lb 1 pl3 rfl rfl rfl) (qo 58 hb34 (pt g22 8) (Fa fo58_8 hs24_3 rfl) (qo 58 hb34 (Iv a1.Code) (Lb 0 pl3 rfl rfl rfl) (qo 58 hb34 (Bv (decide (a0.Code ≠ a1.Code))) (PO.neq rfl rfl) (qu (Bv (decide (a0.Code ≠ a1.Code))) (Pf rfl hb34 rfl) (qm (Bv (decide (a0.Code ≠ a1.Code))) ?_))))))
 rcases Bt (decide (a0.Code ≠ a1.Code)) with hb35 | hb35
 have h := ite_t hb35 h
 iterate 5 refine Of 65 rfl rfl hb35 rfl ?_
 refine qu (Bv true) (Pt rfl hb35 rfl) (Wz ?_)
 obtain rfl := oi h
 exact Tj ⟨lr, rfl, hs24_2, hs24_3, rfl⟩
 have h := ite_f hb35 h
 refine qo 65 hb35 (pt g21 9) (Fa fo58_9 hs24_2 rfl) (qo 65 hb35 (Bv a0.Flag) (Lb 1 pl4 rfl rfl rfl) (qo 65 hb35 (pt g22 9) (Fa fo58_9 hs24_3 rfl) (qo 65 hb35 (Bv a1.Flag) (Lb 0 pl4 rfl rfl rfl) (qo 65 hb35 (Bv (!(a0.Flag == a1.Flag))) (PO.bneq Tryz.underlying4 rfl rfl) (qu (Bv (!(a0.Flag == a1.Flag))) (Pf rfl hb35 rfl) (Wz ?_))))))
 obtain rfl := oi h
 exact Tj ⟨lr, rfl, hs24_2, hs24_3, rfl⟩
 rintro ρ32 M32 H32 ⟨hle32, rfl, hs32_2, hs32_3, hs32_71⟩
 have L32 := hle24.trans hle32
 refine Cd (b := x31) hs32_71 (fun hb36 => ?_) (fun hb36 => ?_)
 have h := ite_t hb36 h
 exact Sr (qa (Bv false) (Nt (Cr (Tr (Dr (Dr (Rf h [] rfl (Rs rfl rfl) L32 ⟨rfl, rfl⟩)))))))
 have h := ite_f hb36 h
 refine Ck (Tc (Cs ?_))
 obtain ⟨x37, hj38, h⟩ := bnd h
 refine Jf (fun (x37 : Bool) ρ' M' H' => M32.le M' ∧ [(g22, .cells (l58 a1 v1_14 v1_15 v1_16 v1_17).toArray 58 (0, 0))] :: [(g21, .cells (l58 a0 v0_14 v0_15 v0_16 v0_17).toArray 58 (0, 0))] :: F = H' ∧ ρ' 2 = (pt g21 0) ∧ ρ' 3 = (pt g22 0) ∧ ρ' 97 = (Bv x37)) x37 ?_ ?_
 have h := hj38
 refine Cg (qu (pt g21 10) (Fa fo58_10 hs32_2 rfl) (qu (Sv a0.Name) (Lb 1 pl9 rfl rfl rfl) (qu (pt g22 10) (Fa fo58_10 hs32_3 rfl) (qu (Sv a1.Name) (Lb 0 pl9 rfl rfl rfl) (qu (Bv (!decide (a0.Name = a1.Name))) (PO.sneq rfl rfl) (qm (Bv (!decide (a0.Name = a1.Name))) ?_))))))
 rcases Bt (!decide (a0.Name = a1.Name)) with hb39 | hb39
 have h := ite_t hb39 h
 iterate 5 refine Of 77 rfl rfl hb39 rfl ?_
 refine qu (Bv true) (Pt rfl hb39 rfl) (qm (Bv true) ?_)
 iterate 5 refine Of 84 rfl rfl rfl rfl ?_
 refine qu (Bv true) (Pt rfl rfl rfl) (qm (Bv true) ?_)
 iterate 5 refine Of 91 rfl rfl rfl rfl ?_
 refine qu (Bv true) (Pt rfl rfl rfl) (Wz ?_)
 obtain rfl := oi h
 exact Tj ⟨lr, rfl, hs32_2, hs32_3, rfl⟩
 have h := ite_f hb39 h
 refine qo 77 hb39 (pt g21 11) (Fa fo58_11 hs32_2 rfl) (qo 77 hb39 (Sv a0.Key) (Lb 1 pl9 rfl rfl rfl) (qo 77 hb39 (pt g22 11) (Fa fo58_11 hs32_3 rfl) (qo 77 hb39 (Sv a1.Key) (Lb 0 pl9 rfl rfl rfl) (qo 77 hb39 (Bv (!decide (a0.Key = a1.Key))) (PO.sneq rfl rfl) (qu (Bv (!decide (a0.Key = a1.Key))) (Pf rfl hb39 rfl) (qm (Bv (!decide (a0.Key = a1.Key))) ?_))))))
 rcases Bt (!decide (a0.Key = a1.Key)) with hb40 | hb40
 have h := ite_t hb40 h
 iterate 5 refine Of 84 rfl rfl hb40 rfl ?_
 refine qu (Bv true) (Pt rfl hb40 rfl) (qm (Bv true) ?_)
 iterate 5 refine Of 91 rfl rfl rfl rfl ?_
 refine qu (Bv true) (Pt rfl rfl rfl) (Wz ?_)
 obtain rfl := oi h
 exact Tj ⟨lr, rfl, hs32_2, hs32_3, rfl⟩
 have h := ite_f hb40 h
 refine qo 84 hb40 (pt g21 12) (Fa fo58_12 hs32_2 rfl) (qo 84 hb40 (Sv a0.Value) (Lb 1 pl9 rfl rfl rfl) (qo 84 hb40 (pt g22 12) (Fa fo58_12 hs32_3 rfl) (qo 84 hb40 (Sv a1.Value) (Lb 0 pl9 rfl rfl rfl) (qo 84 hb40 (Bv (!decide (a0.Value = a1.Value))) (PO.sneq rfl rfl) (qu (Bv (!decide (a0.Value = a1.Value))) (Pf rfl hb40 rfl) (qm (Bv (!decide (a0.Value = a1.Value))) ?_))))))
 rcases Bt (!decide (a0.Value = a1.Value)) with hb41 | hb41
 have h := ite_t hb41 h
 iterate 5 refine Of 91 rfl rfl hb41 rfl ?_
 refine qu (Bv true) (Pt rfl hb41 rfl) (Wz ?_)
 obtain rfl := oi h
 exact Tj ⟨lr, rfl, hs32_2, hs32_3, rfl⟩
 have h := ite_f hb41 h
 refine qo 91 hb41 (pt g21 13) (Fa fo58_13 hs32_2 rfl) (qo 91 hb41 (Sv a0.Rack) (Lb 1 pl9 rfl rfl rfl) (qo 91 hb41 (pt g22 13) (Fa fo58_13 hs32_3 rfl) (qo 91 hb41 (Sv a1.Rack) (Lb 0 pl9 rfl rfl rfl) (qo 91 hb41 (Bv (!decide (a0.Rack = a1.Rack))) (PO.sneq rfl rfl) (qu (Bv (!decide (a0.Rack = a1.Rack))) (Pf rfl hb41 rfl) (Wz ?_))))))
 obtain rfl := oi h
 exact Tj ⟨lr, rfl, hs32_2, hs32_3, rfl⟩
 rintro ρ38 M38 H38 ⟨hle38, rfl, hs38_2, hs38_3, hs38_97⟩
 have L38 := L32.trans hle38
 refine Cd (b := x37) hs38_97 (fun hb42 => ?_) (fun hb42 => ?_)
 have h := ite_t hb42 h
 exact Sr (qa (Bv false) (Nt (Cr (Tr (Dr (Dr (Rf h [] rfl (Rs rfl rfl) L38 ⟨rfl, rfl⟩)))))))
 have h := ite_f hb42 h
 refine Ck (Tc ?_)
 obtain ⟨x43, hj44, h⟩ := bnd h
 refine Jf (fun (x43 : Bool) ρ' M' H' => M38.le M' ∧ [(g22, .cells (l58 a1 v1_14 v1_15 v1_16 v1_17).toArray 58 (0, 0))] :: [(g21, .cells (l58 a0 v0_14 v0_15 v0_16 v0_17).toArray 58 (0, 0))] :: F = H' ∧ ρ' 2 = (pt g21 0) ∧ ρ' 3 = (pt g22 0) ∧ ρ' 5 = (Bv x43)) x43 ?_ ?_
 have h := hj44
 refine Cg (qu (pt g21 14) (Fa fo58_14 hs38_2 rfl) (qu v0_14 (Lb 1 pl56 rfl rfl rfl) (qu (pt g22 14) (Fa fo58_14 hs38_3 rfl) (qu v1_14 (Lb 0 pl56 rfl rfl rfl) ?_))))
 obtain ⟨r45, hr46, h⟩ := bnd h
 have h0_14 := h0_14.mono L38
 have h1_14 := h1_14.mono L38
 refine We (Ca co133 (f_ref02_Ints_ok a0.Ids a1.Ids _ _ _ h0_14 h1_14 r45 hr46) (args2 rfl rfl)) rfl ?_
 rintro _ M47 _ hle48 ⟨_, ⟨rfl, rfl⟩, rfl⟩
 refine WL.a0 (qm (Bv r45) ?_)
 rcases Bt (r45) with hb50 | hb50
 have h := ite_t hb50 h
 refine qo 103 hb50 (pt g21 15) (Fa fo58_15 hs38_2 rfl) (qo 103 hb50 v0_15 (Lb 1 pl56 rfl rfl rfl) (qo 103 hb50 (pt g22 15) (Fa fo58_15 hs38_3 rfl) (qo 103 hb50 v1_15 (Lb 0 pl56 rfl rfl rfl) (On 103 rfl rfl hb50 ?_))))
 obtain ⟨r51, hr52, h⟩ := bnd h
 have h0_15 := h0_15.mono (L38.trans hle48)
 have h1_15 := h1_15.mono (L38.trans hle48)
 refine We (Ca co133 (f_ref02_Ints_ok a0.Isr a1.Isr _ _ _ h0_15 h1_15 r51 hr52) (args2 rfl rfl)) rfl ?_
 rintro _ M53 _ hle54 ⟨_, ⟨rfl, rfl⟩, rfl⟩
 refine WL.a0 (qu (Bv r51) (Pt rfl hb50 rfl) (qa (Bv r51) (Wz ?_)))
 obtain rfl := oi h
 exact Tj ⟨(hle48.trans hle54), rfl, hs38_2, hs38_3, rfl⟩
 have h := ite_f hb50 h
 iterate 5 refine Of 103 rfl rfl hb50 rfl ?_
 refine qu (Bv false) (Pf rfl hb50 rfl) (qa (Bv false) (Wz ?_))
 obtain rfl := oi h
 exact Tj ⟨hle48, rfl, hs38_2, hs38_3, rfl⟩
 rintro ρ44 M44 H44 ⟨hle44, rfl, hs44_2, hs44_3, hs44_5⟩
 have L44 := L38.trans hle44
 obtain ⟨x56, hj57, h⟩ := bnd h
 refine Jf (fun (x56 : Bool) ρ' M' H' => M44.le M' ∧ [(g22, .cells (l58 a1 v1_14 v1_15 v1_16 v1_17).toArray 58 (0, 0))] :: [(g21, .cells (l58 a0 v0_14 v0_15 v0_16 v0_17).toArray 58 (0, 0))] :: F = H' ∧ ρ' 4 = (Bv x56)) x56 ?_ ?_
 have h := hj57
 refine Cg (qM (Bv x43) hs44_5 (qm (Bv x43) ?_))
 rcases Bt (x43) with hb58 | hb58
 have h := ite_t hb58 h
 refine qo 111 hb58 (pt g21 16) (Fa fo58_16 hs44_2 rfl) (qo 111 hb58 v0_16 (Lb 1 pl56 rfl rfl rfl) (qo 111 hb58 (pt g22 16) (Fa fo58_16 hs44_3 rfl) (qo 111 hb58 v1_16 (Lb 0 pl56 rfl rfl rfl) (On 111 rfl rfl hb58 ?_))))
 obtain ⟨r59, hr60, h⟩ := bnd h
 have h0_16 := h0_16.mono L44
 have h1_16 := h1_16.mono L44
 refine We (Ca co133 (f_ref02_Ints_ok a0.Add a1.Add _ _ _ h0_16 h1_16 r59 hr60) (args2 rfl rfl)) rfl ?_
 rintro _ M61 _ hle62 ⟨_, ⟨rfl, rfl⟩, rfl⟩
 refine WL.a0 (qu (Bv r59) (Pt rfl hb58 rfl) (qm (Bv r59) ?_))
 rcases Bt (r59) with hb64 | hb64
 have h := ite_t hb64 h
 refine qo 118 hb64 (pt g21 17) (Fa fo58_17 hs44_2 rfl) (qo 118 hb64 v0_17 (Lb 1 pl56 rfl rfl rfl) (qo 118 hb64 (pt g22 17) (Fa fo58_17 hs44_3 rfl) (qo 118 hb64 v1_17 (Lb 0 pl56 rfl rfl rfl) (On 118 rfl rfl hb64 ?_))))
 obtain ⟨r65, hr66, h⟩ := bnd h
 have h0_17 := h0_17.mono (L44.trans hle62)
 have h1_17 := h1_17.mono (L44.trans hle62)
 refine We (Ca co133 (f_ref02_Ints_ok a0.Drop a1.Drop _ _ _ h0_17 h1_17 r65 hr66) (args2 rfl rfl)) rfl ?_
 rintro _ M67 _ hle68 ⟨_, ⟨rfl, rfl⟩, rfl⟩
 refine WL.a0 (qu (Bv r65) (Pt rfl hb64 rfl) (qa (Bv r65) (Wz ?_)))
 obtain rfl := oi h
 exact Tj ⟨(hle62.trans hle68), rfl, rfl⟩
 have h := ite_f hb64 h
 iterate 5 refine Of 118 rfl rfl hb64 rfl ?_
 refine qu (Bv false) (Pf rfl hb64 rfl) (qa (Bv false) (Wz ?_))
 obtain rfl := oi h
 exact Tj ⟨hle62, rfl, rfl⟩
 have h := ite_f hb58 h
 iterate 5 refine Of 111 rfl rfl hb58 rfl ?_
 refine qu (Bv false) (Pf rfl hb58 rfl) (qm (Bv false) ?_)
 iterate 5 refine Of 118 rfl rfl rfl rfl ?_
 refine qu (Bv false) (Pf rfl rfl rfl) (qa (Bv false) (Wz ?_))
 obtain rfl := oi h
 exact Tj ⟨lr, rfl, rfl⟩
 rintro ρ57 M57 H57 ⟨hle57, rfl, hs57_4⟩
 exact Cr (Dr (Dr (Rf h [] rfl (Rs rfl hs57_4) (L44.trans hle57) ⟨rfl, rfl⟩)))

noncomputable def f_ref06_Same_l0 (a0 : T_api_Batch) (a1 : T_api_Batch) (s_ : Int) : Option (Int ⊕ (Unit ⊕ Unit)) :=
  match s_ with
  | x30 =>
    (if (decide (x30 < (a0.Records.length : Int))) = true then (grd (0 ≤ x30 ∧ x30 < a0.Records.length) (grd (0 ≤ x30 ∧ x30 < a1.Records.length) ((f_ref05_Same (rd a0.Records x30) (rd a1.Records x30)).bind fun r46 => (if (!r46) = true then (some (Sum.inr (Sum.inr ()))) else (some (Sum.inl (IntKind.i64.wrap (x30 + (1 : Int))))))))) else (some (Sum.inr (Sum.inl ()))))
noncomputable def f_ref06_Same (a0 : T_api_Batch) (a1 : T_api_Batch) : Option Bool :=
  (((if (decide (a0.Term ≠ a1.Term)) = true then (some true) else (if (decide (a0.Base ≠ a1.Base)) = true then (some true) else (some (decide ((a0.Records.length : Int) ≠ (a1.Records.length : Int)))))) : Option Bool).bind fun x23 => (if x23 = true then (some false) else ((((iter (f_ref06_Same_l0 a0 a1) (0 : Int)).bind (Sum.elim (fun _ => (some (Sum.inl ()))) (fun _ => (((some false)).bind fun r => some (Sum.inr r))))) : Option (Unit ⊕ Bool)).bind (Sum.elim (fun _ => (some true)) some))))
def f_ref06_Same_post (a0 : T_api_Batch) (a1 : T_api_Batch) (v0_2 v1_2 : Value) : Bool → Value → IM → HL → Prop :=
  fun (r0 : Bool) (v : Value) (M' : IM) (H' : HL) => (.bool r0) = v ∧ H' = []
theorem f_ref06_Same_ok (a0 : T_api_Batch) (a1 : T_api_Batch) (M : IM) (v0_2 v1_2 : Value) (h0_2 : RS kd_api_Record M v0_2 a0.Records) (h1_2 : RS kd_api_Record M v1_2 a1.Records) (res : Bool) (h : f_ref06_Same a0 a1 = some res) :
    Tri Tryz.prog 73 #[(a55_ a0 v0_2), (a55_ a1 v1_2)] M [] (f_ref06_Same_post a0 a1 v0_2 v1_2 res) := by
 unfold f_ref06_Same at h
 refine Te Tryz.func73 rfl rfl ?_
 intro F ρ hρ
 refine Sr (We (EO.box (cs := (l55 a0 v0_2).toArray) (congrArg Value.cells (asE (a55_ a0 v0_2) (hρ 0)))) rfl ?_)
 rintro _ _ _ - ⟨rfl, g21, rfl, rfl⟩
 refine We (EO.box (cs := (l55 a1 v1_2).toArray) (congrArg Value.cells (asE (a55_ a1 v1_2) (hρ 1)))) rfl ?_
 rintro _ _ _ - ⟨rfl, g22, rfl, rfl⟩
 refine qa (Bv false) (Nt (Cs ?_))
 obtain ⟨x23, hj24, h⟩ := bnd h
 refine Jf (fun (x23 : Bool) ρ' M' H' => M.le M' ∧ [(g22, .cells (l55 a1 v1_2).toArray 55 (0, 0))] :: [(g21, .cells (l55 a0 v0_2).toArray 55 (0, 0))] :: F = H' ∧ ρ' 2 = (pt g21 0) ∧ ρ' 3 = (pt g22 0) ∧ ρ' 26 = (Bv x23)) x23 ?_ ?_
 have h := hj24
 refine Cg (qu (pt g21 0) (Fa fo55_0 rfl rfl) (qu (Iv a0.Term) (Lb 1 pl3 rfl rfl rfl) (qu (pt g22 0) (Fa fo55_0 rfl rfl) (qu (Iv a1.Term) (Lb 0 pl3 rfl rfl rfl) (qu (Bv (decide (a0.Term ≠ a1.Term))) (PO.neq rfl rfl) (qm (Bv (decide (a0.Term ≠ a1.Term))) ?_))))))
 rcases Bt (decide (a0.Term ≠ a1.Term)) with hb25 | hb25
 have h := ite_t hb25 h
 iterate 5 refine Of 11 rfl rfl hb25 rfl ?_
 refine qu (Bv true) (Pt rfl hb25 rfl) (qm (Bv true) ?_)
 iterate 7 refine Of 18 rfl rfl rfl rfl ?_
 refine qu (Bv true) (Pt rfl rfl rfl) (Wz ?_)
 obtain rfl := oi h
 exact Tj ⟨lr, rfl, rfl, rfl, rfl⟩
 have h := ite_f hb25 h
 refine qo 11 hb25 (pt g21 1) (Fa fo55_1 rfl rfl) (qo 11 hb25 (Iv a0.Base) (Lb 1 pl3 rfl rfl rfl) (qo 11 hb25 (pt g22 1) (Fa fo55_1 rfl rfl) (qo 11 hb25 (Iv a1.Base) (Lb 0 pl3 rfl rfl rfl) (qo 11 hb25 (Bv (decide (a0.Base ≠ a1.Base))) (PO.neq rfl rfl) (qu (Bv (decide (a0.Base ≠ a1.Base))) (Pf rfl hb25 rfl) (qm (Bv (decide (a0.Base ≠ a1.Base))) ?_))))))
 rcases Bt (decide (a0.Base ≠ a1.Base)) with hb26 | hb26
 have h := ite_t hb26 h
 iterate 7 refine Of 18 rfl rfl hb26 rfl ?_
 refine qu (Bv true) (Pt rfl hb26 rfl) (Wz ?_)
 obtain rfl := oi h
 exact Tj ⟨lr, rfl, rfl, rfl, rfl⟩
 have h := ite_f hb26 h
 refine qo 18 hb26 (pt g21 2) (Fa fo55_2 rfl rfl) (qo 18 hb26 v0_2 (Lb 1 pl53 rfl rfl rfl) (qo 18 hb26 (Iv (a0.Records.length : Int)) (PO.lenS Tryz.underlying53 rfl h0_2.len) (qo 18 hb26 (pt g22 2) (Fa fo55_2 rfl rfl) (qo 18 hb26 v1_2 (Lb 0 pl53 rfl rfl rfl) (qo 18 hb26 (Iv (a1.Records.length : Int)) (PO.lenS Tryz.underlying53 rfl h1_2.len) (qo 18 hb26 (Bv (decide ((a0.Records.length : Int) ≠ (a1.Records.length : Int)))) (PO.neq rfl rfl) (qu (Bv (decide ((a0.Records.length : Int) ≠ (a1.Records.length : Int)))) (Pf rfl hb26 rfl) (Wz ?_))))))))
 obtain rfl := oi h
 exact Tj ⟨lr, rfl, rfl, rfl, rfl⟩
 rintro ρ24 M24 H24 ⟨hle24, rfl, hs24_2, hs24_3, hs24_26⟩
 refine Cd (b := x23) hs24_26 (fun hb27 => ?_) (fun hb27 => ?_)
 have h := ite_t hb27 h
 exact Sr (qa (Bv false) (Nt (Cr (Tr (Dr (Dr (Rf h [] rfl (Rs rfl rfl) hle24 ⟨rfl, rfl⟩)))))))
 have h := ite_f hb27 h
 refine Ck (Tc ?_)
 obtain ⟨j28, hj28, h⟩ := bnd h
 refine WC.joinE (fun (_ : Unit) ρ' M' H' => M24.le M' ∧ [(g22, .cells (l55 a1 v1_2).toArray 55 (0, 0))] :: [(g21, .cells (l55 a0 v0_2).toArray 55 (0, 0))] :: F = H') j28 ?_ ?_
 have h328 := h
 have h := hj28
 refine Sr (qa (Iv 0) (Nt (Bk ?_)))
 obtain ⟨e29, he29, hK29⟩ := bnd h
 clear h
 refine WC.loop he29 (fun (x30 : Int) ρ' M' H' => M24.le M' ∧ [(g22, .cells (l55 a1 v1_2).toArray 55 (0, 0))] :: [(g21, .cells (l55 a0 v0_2).toArray 55 (0, 0))] :: F = H' ∧ ρ' 2 = (pt g21 0) ∧ ρ' 3 = (pt g22 0) ∧ ρ' 5 = (Iv x30)) ?_ ?_
 exact ⟨lr, rfl, hs24_2, hs24_3, rfl⟩
 rintro x30 o29 ρ29 M29 H29 h ⟨hle29, rfl, hs29_2, hs29_3, hs29_5⟩
 unfold f_ref06_Same_l0 at h
 refine Cs (Sr (qM (Iv x30) hs29_5 (qu (pt g21 2) (Fa fo55_2 hs29_2 rfl) (qu v0_2 (Lb 1 pl53 rfl rfl rfl) ?_))))
 have h0_2 := h0_2.mono (hle24.trans hle29)
 refine qu (Iv (a0.Records.length : Int)) (PO.lenS Tryz.underlying53 rfl h0_2.len) (qu (Bv (decide (x30 < (a0.Records.length : Int)))) (PO.lss rfl rfl) (Nt (Cd (b := decide (x30 < (a0.Records.length : Int))) rfl (fun hb31 => ?_) (fun hb31 => ?_))))
 have h := ite_t hb31 h
 refine Ck (Tc (Cs (Bk (Cs (WC.draw [0, 1, 0, 7, 15, 0, 32, 0, 224, 480, 1023, 2047] (.pure 0 (.pure 1 (.pure 2 (.pure 3 (.pure 4 (.pure 5 (.pure 6 (.pure 7 (.pure 8 (.pure 9 (.alt 10 (.pure 11 .done) .none))))))))))) mixed (by kernel_rfl) (qt (pt g21 2) rfl (Fa fo55_2 hs29_2 rfl) (qt v0_2 rfl (Lb 1 pl53 rfl rfl rfl) (qt (Iv x30) rfl (Mv hs29_5) ?_))))))))
 obtain ⟨hg32, h⟩ := grd_i h
 obtain ⟨p33, cs34, hat35, hrc36, hhas37⟩ := h0_2.at hg32.1 hg32.2 (by decide)
 obtain ⟨vw38_14, vw38_15, vw38_16, vw38_17, rfl, hw38_14, hw38_15, hw38_16, hw38_17⟩ := kd_api_Record_open hrc36
 refine qt (.pointer (some p33)) rfl (PO.indexAddr (n := a0.Records.length) Tryz.underlying53 sz58 rfl rfl hg32.1 hg32.2 hat35) (qt (a58_ (rd a0.Records x30) vw38_14 vw38_15 vw38_16 vw38_17) rfl (PO.loadMA (cs := (l58 (rd a0.Records x30) vw38_14 vw38_15 vw38_16 vw38_17)) ag58 sz58 rfl hhas37) (qt (pt g22 2) rfl (Fa fo55_2 hs29_3 rfl) (qt v1_2 rfl (Lb 0 pl53 rfl rfl rfl) (qt (Iv x30) rfl (Mv hs29_5) ?_))))
 obtain ⟨hg39, h⟩ := grd_i h
 have h1_2 := h1_2.mono (hle24.trans hle29)
 obtain ⟨p40, cs41, hat42, hrc43, hhas44⟩ := h1_2.at hg39.1 hg39.2 (by decide)
 obtain ⟨vw45_14, vw45_15, vw45_16, vw45_17, rfl, hw45_14, hw45_15, hw45_16, hw45_17⟩ := kd_api_Record_open hrc43
 refine qt (.pointer (some p40)) rfl (PO.indexAddr (n := a1.Records.length) Tryz.underlying53 sz58 rfl rfl hg39.1 hg39.2 hat42) (qt (a58_ (rd a1.Records x30) vw45_14 vw45_15 vw45_16 vw45_17) rfl (PO.loadMA (cs := (l58 (rd a1.Records x30) vw45_14 vw45_15 vw45_16 vw45_17)) ag58 sz58 rfl hhas44) ?_)
 obtain ⟨r46, hr47, h⟩ := bnd h
 refine Ta rfl (Ca co103 (f_ref05_Same_ok (rd a0.Records x30) (rd a1.Records x30) _ _ _ _ _ _ _ _ _ hw38_14 hw38_15 hw38_16 hw38_17 hw45_14 hw45_15 hw45_16 hw45_17 r46 hr47) (args2 rfl rfl)) rfl ?_ ?_
 rintro _ M48 _ hle49 ⟨_, ⟨rfl, rfl⟩, rfl⟩
 refine ⟨(Sl rfl), ?_⟩
 refine WT.a0 (qt (Bv (!r46)) rfl (PO.not rfl) (Ti (Tc (Cd (b := !r46) rfl (fun hb51 => ?_) (fun hb51 => ?_)))))
 have h := ite_t hb51 h
 refine Sr (qa (Bv false) (Nt (Cr (Br (Tr (WQ.leaveR (Sum.inr ()) (oi h).symm (fun heq29 => ?_)))))))
 subst heq29
 have h := (elimR hK29)
 refine Br (Tr ?_)
 have h := KK.early h h328
 exact Dr (Dr (Rf h [] rfl (Rs rfl rfl) ((hle24.trans hle29).trans hle49) ⟨rfl, rfl⟩))
 have h := ite_f hb51 h
 exact Ck (Bn (Tc (Cg (qM (Iv x30) hs29_5 (qu (Iv (IntKind.i64.wrap (x30 + 1))) (PO.add rfl rfl) (qa (Iv (IntKind.i64.wrap (x30 + 1))) (Wz (WQ.again (IntKind.i64.wrap (x30 + 1)) (oi h).symm ⟨(hle29.trans hle49), rfl, hs29_2, hs29_3, rfl⟩))))))))
 exact Tz
 have h := ite_f hb31 h
 refine WC.exit (WQ.thenE (WQ.leaveE (Sum.inl ()) (oi h).symm (fun heq29 => ?_)))
 subst heq29
 have h := elimL hK29
 exact WQ.blockH (WQ.thenFE h ⟨hle29, rfl⟩)
 rintro _ ρ28 M28 H28 rfl ⟨hle28, rfl⟩
 have h := (Sum.elim_inl _ _ _).symm.trans h
 exact Sr (qa (Bv true) (Nt (Cr (Dr (Dr (Rf h [] rfl (Rs rfl rfl) (hle24.trans hle28) ⟨rfl, rfl⟩))))))

noncomputable def f_ref06_All_l0 (a0 : (List T_api_Batch)) (a1 : (List T_api_Batch)) (s_ : Int) : Option (Int ⊕ (Unit ⊕ Unit)) :=
  match s_ with
  | x24 =>
    (if (decide (x24 < (a0.length : Int))) = true then (grd (0 ≤ x24 ∧ x24 < a0.length) (grd (0 ≤ x24 ∧ x24 < a1.length) ((f_ref06_Same (rd a0 x24) (rd a1 x24)).bind fun r40 => (if (!r40) = true then (some (Sum.inr (Sum.inr ()))) else (some (Sum.inl (IntKind.i64.wrap (x24 + (1 : Int))))))))) else (some (Sum.inr (Sum.inl ()))))
noncomputable def f_ref06_All (a0 : (List T_api_Batch)) (a1 : (List T_api_Batch)) : Option Bool :=
  (if (decide ((a0.length : Int) ≠ (a1.length : Int))) = true then (some false) else ((((iter (f_ref06_All_l0 a0 a1) (0 : Int)).bind (Sum.elim (fun _ => (some (Sum.inl ()))) (fun _ => (((some false)).bind fun r => some (Sum.inr r))))) : Option (Unit ⊕ Bool)).bind (Sum.elim (fun _ => (some true)) some)))
def f_ref06_All_post (a0 : (List T_api_Batch)) (a1 : (List T_api_Batch)) (v0 v1 : Value) : Bool → Value → IM → HL → Prop :=
  fun (r0 : Bool) (v : Value) (M' : IM) (H' : HL) => (.bool r0) = v ∧ H' = []
theorem f_ref06_All_ok (a0 : (List T_api_Batch)) (a1 : (List T_api_Batch)) (M : IM) (v0 v1 : Value) (h0 : RS kd_api_Batch M v0 a0) (h1 : RS kd_api_Batch M v1 a1) (res : Bool) (h : f_ref06_All a0 a1 = some res) :
    Tri Tryz.prog 39 #[v0, v1] M [] (f_ref06_All_post a0 a1 v0 v1 res) := by
 unfold f_ref06_All at h
 refine Te Tryz.func39 rfl rfl ?_
 intro F ρ hρ
 refine Sr (qa (Bv false) (Nt (Cs (Sr (qM v0 (hρ 0) (qu (Iv (a0.length : Int)) (PO.lenS Tryz.underlying22 rfl h0.len) (qM v1 (hρ 1) (qu (Iv (a1.length : Int)) (PO.lenS Tryz.underlying22 rfl h1.len) (qu (Bv (decide ((a0.length : Int) ≠ (a1.length : Int)))) (PO.neq rfl rfl) (Nt (Cd (b := decide ((a0.length : Int) ≠ (a1.length : Int))) rfl (fun hb21 => ?_) (fun hb21 => ?_))))))))))))
 have h := ite_t hb21 h
 exact Sr (qa (Bv false) (Nt (Cr (Tr (Rf h [] rfl (Rs rfl rfl) lr ⟨rfl, rfl⟩)))))
 have h := ite_f hb21 h
 refine Ck (Tc ?_)
 obtain ⟨j22, hj22, h⟩ := bnd h
 refine WC.joinE (fun (_ : Unit) ρ' M' H' => M.le M' ∧ F = H') j22 ?_ ?_
 have h322 := h
 have h := hj22
 refine Sr (qa (Iv 0) (Nt (Bk ?_)))
 obtain ⟨e23, he23, hK23⟩ := bnd h
 clear h
 refine WC.loop he23 (fun (x24 : Int) ρ' M' H' => M.le M' ∧ F = H' ∧ ρ' 0 = v0 ∧ ρ' 1 = v1 ∧ ρ' 5 = (Iv x24)) ?_ ?_
 exact ⟨lr, rfl, (hρ 0), (hρ 1), rfl⟩
 rintro x24 o23 ρ23 M23 H23 h ⟨hle23, rfl, hs23_0, hs23_1, hs23_5⟩
 unfold f_ref06_All_l0 at h
 refine Cs (Sr (qM (Iv x24) hs23_5 (qM v0 hs23_0 ?_)))
 have h0 := h0.mono hle23
 refine qu (Iv (a0.length : Int)) (PO.lenS Tryz.underlying22 rfl h0.len) (qu (Bv (decide (x24 < (a0.length : Int)))) (PO.lss rfl rfl) (Nt (Cd (b := decide (x24 < (a0.length : Int))) rfl (fun hb25 => ?_) (fun hb25 => ?_))))
 have h := ite_t hb25 h
 refine Ck (Tc (Cs (Bk (Cs (WC.draw [0, 0, 3, 7, 0, 0, 48, 112, 255, 511] (.pure 0 (.pure 1 (.pure 2 (.pure 3 (.pure 4 (.pure 5 (.pure 6 (.pure 7 (.alt 8 (.pure 9 .done) .none))))))))) mixed (by kernel_rfl) (qt v0 rfl (Mv hs23_0) (qt (Iv x24) rfl (Mv hs23_5) ?_)))))))
 obtain ⟨hg26, h⟩ := grd_i h
 obtain ⟨p27, cs28, hat29, hrc30, hhas31⟩ := h0.at hg26.1 hg26.2 (by decide)
 obtain ⟨vw32_2, rfl, hw32_2⟩ := kd_api_Batch_open hrc30
 refine qt (.pointer (some p27)) rfl (PO.indexAddr (n := a0.length) Tryz.underlying22 sz55 rfl rfl hg26.1 hg26.2 hat29) (qt (a55_ (rd a0 x24) vw32_2) rfl (PO.loadMA (cs := (l55 (rd a0 x24) vw32_2)) ag55 sz55 rfl hhas31) (qt v1 rfl (Mv hs23_1) (qt (Iv x24) rfl (Mv hs23_5) ?_)))
 obtain ⟨hg33, h⟩ := grd_i h
 have h1 := h1.mono hle23
 obtain ⟨p34, cs35, hat36, hrc37, hhas38⟩ := h1.at hg33.1 hg33.2 (by decide)
 obtain ⟨vw39_2, rfl, hw39_2⟩ := kd_api_Batch_open hrc37
 refine qt (.pointer (some p34)) rfl (PO.indexAddr (n := a1.length) Tryz.underlying22 sz55 rfl rfl hg33.1 hg33.2 hat36) (qt (a55_ (rd a1 x24) vw39_2) rfl (PO.loadMA (cs := (l55 (rd a1 x24) vw39_2)) ag55 sz55 rfl hhas38) ?_)
 obtain ⟨r40, hr41, h⟩ := bnd h
 refine Ta rfl (Ca co73 (f_ref06_Same_ok (rd a0 x24) (rd a1 x24) _ _ _ hw32_2 hw39_2 r40 hr41) (args2 rfl rfl)) rfl ?_ ?_
 rintro _ M42 _ hle43 ⟨_, ⟨rfl, rfl⟩, rfl⟩
 refine ⟨(Sl rfl), ?_⟩
 refine WT.a0 (qt (Bv (!r40)) rfl (PO.not rfl) (Ti (Tc (Cd (b := !r40) rfl (fun hb45 => ?_) (fun hb45 => ?_)))))
 have h := ite_t hb45 h
 refine Sr (qa (Bv false) (Nt (Cr (Br (Tr (WQ.leaveR (Sum.inr ()) (oi h).symm (fun heq23 => ?_)))))))
 subst heq23
 have h := (elimR hK23)
 refine Br (Tr ?_)
 have h := KK.early h h322
 exact Rf h [] rfl (Rs rfl rfl) (hle23.trans hle43) ⟨rfl, rfl⟩
 have h := ite_f hb45 h
 exact Ck (Bn (Tc (Cg (qM (Iv x24) hs23_5 (qu (Iv (IntKind.i64.wrap (x24 + 1))) (PO.add rfl rfl) (qa (Iv (IntKind.i64.wrap (x24 + 1))) (Wz (WQ.again (IntKind.i64.wrap (x24 + 1)) (oi h).symm ⟨(hle23.trans hle43), rfl, hs23_0, hs23_1, rfl⟩))))))))
 exact Tz
 have h := ite_f hb25 h
 refine WC.exit (WQ.thenE (WQ.leaveE (Sum.inl ()) (oi h).symm (fun heq23 => ?_)))
 subst heq23
 have h := elimL hK23
 exact WQ.blockH (WQ.thenFE h ⟨hle23, rfl⟩)
 rintro _ ρ22 M22 H22 rfl ⟨hle22, rfl⟩
 have h := (Sum.elim_inl _ _ _).symm.trans h
 exact Sr (qa (Bv true) (Nt (Cr (Rf h [] rfl (Rs rfl rfl) hle22 ⟨rfl, rfl⟩))))


end Go.Proofs.YtkflneabcannnaaGreatDoor.G
