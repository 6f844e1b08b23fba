/- Go functions: what they come to, and that they do. Printed by a program of the session (gen). -/
import Derived.Test.YtjiffdgidodebaaGreatDoorRF
import Derived.Test.YtjiffdgidodebaaGreatDoorR14
import Derived.Test.YtjiffdgidodebaaGreatDoorKShar2
import Derived.Test.YtjiffdgidodebaaGreatDoorKConv
import Derived.Test.YtjiffdgidodebaaGreatDoorKTight
set_option linter.unusedVariables false
set_option linter.unusedSimpArgs false
set_option maxHeartbeats 8000000
set_option maxRecDepth 100000
namespace Go.Proofs.YtjiffdgidodebaaGreatDoor.G
open Go Go.KK

noncomputable def f_fault_Path_l0 (s_ : (GErr × (List ByteArray))) : Option ((GErr × (List ByteArray)) ⊕ (List ByteArray)) :=
  match s_ with
  | (x24, x25) =>
    (if (!x24.isNil) = true then ((f_errors_As_fault x24 (⟨(⟨#[]⟩ : ByteArray), (0 : Int), GErr.nil⟩ : T_api_Fault)).bind fun (r29, r30, r31, r32) => (if (!r29) = true then (some (Sum.inr x25)) else (grd (x25.length + [r30].length ≤ 274877906944) (some (Sum.inl (r32, x25 ++ [r30])))))) else (some (Sum.inr x25)))
noncomputable def f_fault_Path (a0 : GErr) : Option (List ByteArray) :=
  ((((iter (f_fault_Path_l0) (a0, [])).bind (fun (x26 : (List ByteArray)) => (some x26))) : Option (List ByteArray)).bind fun (x21 : (List ByteArray)) => (some x21))
def f_fault_Path_post (a0 : GErr) : (List ByteArray) → Value → IM → HL → Prop :=
  fun (r0 : (List ByteArray)) (v : Value) (M' : IM) (H' : HL) => ∃ vz0 cz0, vz0 = v ∧ H' = [cz0] ∧ OwnS Kd.str M' vz0 r0 cz0
theorem f_fault_Path_ok (a0 : GErr) (M : IM) (hE : Env M) (res : (List ByteArray)) (h : f_fault_Path a0 = some res) :
    Tri Tryz.prog 52 #[(GV a0)] M [] (f_fault_Path_post a0 res) := by
 unfold f_fault_Path at h
 refine Te Tryz.func52 rfl rfl ?_
 intro F ρ hρ
 refine Sr (Pa Zs rfl rfl (Ns (Pa Zs rfl rfl (Nt ?_))))
 obtain ⟨x21, hj22, h⟩ := bnd h
 refine Jf (fun (x21 : (List ByteArray)) ρ' M' H' => ∃ vx21 cx21, M.le M' ∧ cx21 :: F = H' ∧ ρ' 3 = vx21 ∧ OwnS Kd.str M' vx21 x21 cx21) x21 ?_ ?_
 have h322 := h
 have h := hj22
 refine Bk (WC.e0 ?_)
 obtain ⟨e23, he23, hK23⟩ := bnd h
 clear h
 refine WC.loop he23 (fun (p_ : (GErr × (List ByteArray))) ρ' M' H' => match p_ with | (x24, x25) => ∃ vx25 cx25, M.le M' ∧ cx25 :: F = H' ∧ ρ' 0 = (GV x24) ∧ ρ' 3 = vx25 ∧ OwnS Kd.str M' vx25 x25 cx25) ?_ ?_
 exact ⟨Zs, [], lr, rfl, (hρ 0), rfl, (OwnS.nil _ _)⟩
 rintro ⟨x24, x25⟩ o23 ρ23 M23 H23 h ⟨vx25, cx25, hle23, rfl, hs23_0, hs23_3, hx25⟩
 unfold f_fault_Path_l0 at h
 refine Cs (Sr (Pm (GV x24) hs23_0 rfl (Pu (Bv (!x24.isNil)) (PO.errNotNil Tryz.underlying29 rfl) rfl (Nt (Cd (b := !x24.isNil) rfl (fun hb27 => ?_) (fun hb27 => ?_))))))
 have h := ite_t hb27 h
 refine Ck (Tc (Bk (Sr (We (Al ze94 rfl) rfl ?_))))
 rintro _ _ _ - ⟨rfl, g28, rfl, rfl⟩
 refine Nt (Cs (Sr (Pm (GV x24) hs23_0 rfl (Pu (.iface 95 (pt g28 0)) (PO.makeInterface cc95 rfl) rfl ?_))))
 obtain ⟨⟨r29, r30, r31, r32⟩, hr33, h⟩ := bnd h
 have hE := hE.mono hle23
 refine We (Cb co50 (f_errors_As_fault_ok x24 (⟨(⟨#[]⟩ : ByteArray), (0 : Int), GErr.nil⟩ : T_api_Fault) _ _ hE (r29, r30, r31, r32) hr33) (args2 rfl rfl)) rfl ?_
 rintro _ M34 _ hle35 ⟨_, ⟨rfl, rfl⟩, rfl⟩
 refine WL.a1 (Pu (Bv (!r29)) (PO.not rfl) rfl (Nt (Cd (b := !r29) rfl (fun hb37 => ?_) (fun hb37 => ?_))))
 have h := ite_t hb37 h
 refine WC.exit (WQ.thenE (WQ.blockM rfl (WQ.leaveE x25 (oi h).symm (fun heq23 => ?_))))
 subst heq23
 have h := hK23
 refine WQ.blockH (Dr ?_)
 obtain rfl := oi h
 refine Tj ?_
 have hx25 := hx25.mono hle35
 exact ⟨vx25, cx25, (hle23.trans hle35), rfl, hs23_3, hx25⟩
 have h := ite_f hb37 h
 refine Ck (Tc (Sr (Pm vx25 hs23_3 rfl (Pu (pt g28 0) (Fa fo94_0 rfl rfl) rfl (Pu (Sv r30) (Lb 0 pl9 rfl rfl rfl) rfl (We (EO.buildSliceL (cl := [(Sv r30)]) Tryz.underlying96 iz9 rfl (Pc (Sv r30) rfl rfl Pz) rfl) rfl ?_))))))
 rintro _ _ _ - ⟨rfl, g38, rfl, rfl⟩
 have h40 : OwnS Kd.str M34 (.slice (some ⟨g38, 0, none⟩) 1 1) [r30] [(g38, .cells #[(Sv r30)] 9 (0, 0))] := OwnS.rows (css := [[(Sv r30)]]) (Rows.cons rfl Rows.nil) rfl rfl
 obtain ⟨hg44, h⟩ := grd_i h
 refine Wb ?_
 have hx25 := hx25.mono hle35
 refine We (EO.append (dd := Kd.str) (xs := x25) (ys := [r30]) Tryz.underlying96 Tryz.underlying96 in9 rfl (appB (by decide) hg44) (by decide) rfl rfl hx25 (h40.src 1 rfl)) rfl ?_
 rintro v43 _ _ - ⟨rfl, c41, rfl, h42⟩
 refine Pa v43 rfl rfl (Nt (Cg (Pu (pt g28 2) (Fa fo94_2 rfl rfl) rfl (Pu (GV r32) (Lb 2 pl29 rfl rfl rfl) rfl (Pa (GV r32) rfl rfl (Wz (Bn (Qa (Dr (Qa (Dr ?_)))))))))))
 exact WQ.again (r32, x25 ++ [r30]) (oi h).symm ⟨v43, c41, (hle23.trans hle35), rfl, rfl, rfl, h42⟩
 have h := ite_f hb27 h
 refine WC.exit (WQ.thenE (WQ.leaveE x25 (oi h).symm (fun heq23 => ?_)))
 subst heq23
 have h := hK23
 refine WQ.blockH ?_
 obtain rfl := oi h
 exact Tj ⟨vx25, cx25, hle23, rfl, hs23_3, hx25⟩
 rintro ρ22 M22 H22 ⟨vx21, cx21, hle22, rfl, hs22_3, hx21⟩
 exact Sr (Pm vx21 hs22_3 rfl (Pa vx21 rfl rfl (Nt (Cr (Rf h [cx21] rfl (Rs rfl rfl) hle22 ⟨vx21, cx21, rfl, rfl, hx21⟩)))))

noncomputable def f_fault_Under_l0 (a1 : ByteArray) (r22 : (List ByteArray)) (s_ : Int) : Option (Int ⊕ (Unit ⊕ Unit)) :=
  match s_ with
  | x28 =>
    (if (decide (x28 < (r22.length : Int))) = true then (grd (0 ≤ x28 ∧ x28 < r22.length) (if (decide ((rd r22 x28) = a1)) = true then (some (Sum.inr (Sum.inr ()))) else (some (Sum.inl (IntKind.i64.wrap (x28 + (1 : Int))))))) else (some (Sum.inr (Sum.inl ()))))
noncomputable def f_fault_Under (a0 : GErr) (a1 : ByteArray) : Option Bool :=
  ((((f_fault_Path a0).bind fun (r22 : (List ByteArray)) => ((iter (f_fault_Under_l0 a1 r22) (0 : Int)).bind (Sum.elim (fun _ => (some (Sum.inl ()))) (fun _ => (((some true)).bind fun r => some (Sum.inr r)))))) : Option (Unit ⊕ Bool)).bind (Sum.elim (fun _ => (some false)) some))
def f_fault_Under_post (a0 : GErr) (a1 : ByteArray) : Bool → Value → IM → HL → Prop :=
  fun (r0 : Bool) (v : Value) (M' : IM) (H' : HL) => (.bool r0) = v ∧ H' = []
theorem f_fault_Under_ok (a0 : GErr) (a1 : ByteArray) (M : IM) (hE : Env M) (res : Bool) (h : f_fault_Under a0 a1 = some res) :
    Tri Tryz.prog 30 #[(GV a0), (Sv a1)] M [] (f_fault_Under_post a0 a1 res) := by
 unfold f_fault_Under at h
 refine Te Tryz.func30 rfl rfl ?_
 intro F ρ hρ
 refine Sr (Pa (Bv false) rfl rfl (Nt ?_))
 obtain ⟨j21, hj21, h⟩ := bnd h
 refine WC.joinE (fun (_ : Unit) ρ' M' H' => M.le M' ∧ F = H') j21 ?_ ?_
 have h321 := h
 have h := hj21
 refine Sr (Pm (GV a0) (hρ 0) rfl ?_)
 obtain ⟨r22, hr23, h⟩ := bnd h
 refine We (Ca co52 (f_fault_Path_ok a0 _ hE r22 hr23) (args1 rfl)) rfl ?_
 rintro _ M24 _ hle25 ⟨_, ⟨vq26, cq26, rfl, rfl, hq26⟩, rfl⟩
 refine WL.a1 (Pu (Iv (r22.length : Int)) (PO.lenS Tryz.underlying96 rfl hq26.len) rfl (Pm (Iv 0) rfl rfl (Nt (Bk ?_))))
 obtain ⟨e27, he27, hK27⟩ := bnd h
 clear h
 refine WC.loop he27 (fun (x28 : Int) ρ' M' H' => M24.le M' ∧ cq26 :: F = H' ∧ ρ' 1 = (Sv a1) ∧ ρ' 8 = vq26 ∧ ρ' 9 = (Iv (r22.length : Int)) ∧ ρ' 10 = (Iv x28)) ?_ ?_
 exact ⟨lr, rfl, (hρ 1), rfl, rfl, rfl⟩
 rintro x28 o27 ρ27 M27 H27 h ⟨hle27, rfl, hs27_1, hs27_8, hs27_9, hs27_10⟩
 unfold f_fault_Under_l0 at h
 refine Sr (Pu (Bv (decide (x28 < (r22.length : Int)))) (PO.lss hs27_10 hs27_9) rfl (Nt (Cs (Cd (b := decide (x28 < (r22.length : Int))) rfl (fun hb29 => ?_) (fun hb29 => ?_)))))
 have h := ite_t hb29 h
 refine Ck (Tc (Cs (Bk (Sr ?_))))
 obtain ⟨hg30, h⟩ := grd_i h
 have hq26 := hq26.mono hle27
 obtain ⟨p31, cs32, hat33, hrc34, hhas35⟩ := hq26.at hg30.1 hg30.2
 obtain rfl := hrc34
 refine Pu (.pointer (some p31)) (PO.indexAddr (n := r22.length) Tryz.underlying96 sz9 hs27_8 hs27_10 hg30.1 hg30.2 hat33) rfl (Pu (Sv (rd r22 x28)) (PO.loadC 0 pl9 rfl rfl (chunkHas0 hhas35)) rfl (Pa (Sv (rd r22 x28)) rfl rfl (Ns (Pm (Sv (rd r22 x28)) rfl rfl (Pm (Sv a1) hs27_1 rfl (Pu (Bv (decide ((rd r22 x28) = a1))) (PO.seql rfl rfl) rfl (Nt (Cd (b := decide ((rd r22 x28) = a1)) rfl (fun hb37 => ?_) (fun hb37 => ?_)))))))))
 have h := ite_t hb37 h
 refine Sr (Pa (Bv true) rfl rfl (Nt (Cr (Br (Tr (WQ.leaveR (Sum.inr ()) (oi h).symm (fun heq27 => ?_)))))))
 subst heq27
 have h := (elimR hK27)
 refine Br (Tr ?_)
 have h := KK.early h h321
 exact Dr (Rf h [] rfl (Rs rfl rfl) (hle25.trans hle27) ⟨rfl, rfl⟩)
 have h := ite_f hb37 h
 exact Ck (Bn (Tc (Cg (Pu (Iv (IntKind.i64.wrap (x28 + 1))) (PO.add hs27_10 rfl) rfl (Pm (Iv (IntKind.i64.wrap (x28 + 1))) rfl rfl (Wz (WQ.again (IntKind.i64.wrap (x28 + 1)) (oi h).symm ⟨hle27, rfl, hs27_1, hs27_8, hs27_9, rfl⟩)))))))
 have h := ite_f hb29 h
 refine WC.exit (WQ.thenE (WQ.leaveE (Sum.inl ()) (oi h).symm (fun heq27 => ?_)))
 subst heq27
 have h := elimL hK27
 exact WQ.blockH (Dr (WQ.thenFE h ⟨(hle25.trans hle27), rfl⟩))
 rintro _ ρ21 M21 H21 rfl ⟨hle21, rfl⟩
 have h := (Sum.elim_inl _ _ _).symm.trans h
 exact Sr (Pa (Bv false) rfl rfl (Nt (Cr (Rf h [] rfl (Rs rfl rfl) hle21 ⟨rfl, rfl⟩))))

noncomputable def f_law06_wrong (a0 : GErr) (a1 : T_ref06_Wrong) : Option Bool :=
  (if a0.isNil = true then (some (decide (a1.W.Code = (0 : Int)))) else ((f_fault_Where a0).bind fun (r23, r24) => ((((f_fault_Of a0).bind fun (r32 : Int) => (if (decide (r32 = a1.W.Code)) = true then (if r24 = true then (if (decide (r23 = a1.W.At)) = true then ((f_fault_Under a0 a1.W.Op).bind fun (r40 : Bool) => (if r40 = true then (if (decide (a1.Record < (0 : Int))) = true then (some true) else ((f_fault_Under a0 (⟨#[114, 101, 99, 111, 114, 100]⟩ : ByteArray)).bind fun (r47 : Bool) => (some r47))) else (some false))) else (some false)) else (some false)) else (some false))) : Option Bool).bind fun (x30 : Bool) => (some x30))))
def f_law06_wrong_post (a0 : GErr) (a1 : T_ref06_Wrong) : Bool → Value → IM → HL → Prop :=
  fun (r0 : Bool) (v : Value) (M' : IM) (H' : HL) => (.bool r0) = v ∧ H' = []
theorem f_law06_wrong_ok (a0 : GErr) (a1 : T_ref06_Wrong) (M : IM) (hE : Env M) (res : Bool) (h : f_law06_wrong a0 a1 = some res) :
    Tri Tryz.prog 8 #[(GV a0), (a35_ a1)] M [] (f_law06_wrong_post a0 a1 res) := by
 unfold f_law06_wrong at h
 refine Te Tryz.func8 rfl rfl ?_
 intro F ρ hρ
 refine Sr (We (EO.box (cs := (l35 a1).toArray) (congrArg Value.cells (asE (a35_ a1) (hρ 1)))) rfl ?_)
 rintro _ _ _ - ⟨rfl, g21, rfl, rfl⟩
 refine Pa (Bv false) rfl rfl (Nt (Cs (Sr (Pm (GV a0) (hρ 0) rfl (Pu (Bv a0.isNil) (PO.errNil Tryz.underlying29 rfl) rfl (Nt (Cd (b := a0.isNil) rfl (fun hb22 => ?_) (fun hb22 => ?_))))))))
 have h := ite_t hb22 h
 exact Sr (Pu (pt g21 0) (Fa fo35_0 rfl rfl) rfl (Pu (pt g21 2) (Fa fo33_2 rfl rfl) rfl (Pu (Iv a1.W.Code) (Lb 0 pl31 rfl rfl rfl) rfl (Pu (Bv (decide (a1.W.Code = 0))) (PO.eql rfl rfl) rfl (Pa (Bv (decide (a1.W.Code = 0))) rfl rfl (Nt (Cr (Tr (Dr (Rf h [] rfl (Rs rfl rfl) lr ⟨rfl, rfl⟩))))))))))
 have h := ite_f hb22 h
 refine Ck (Tc (Sr (Pm (GV a0) (hρ 0) rfl ?_)))
 obtain ⟨⟨r23, r24⟩, hr25, h⟩ := bnd h
 refine We (Ca co29 (f_fault_Where_ok a0 _ hE (r23, r24) hr25) (args1 rfl)) rfl ?_
 rintro _ M26 _ hle27 ⟨_, ⟨rfl, rfl⟩, rfl⟩
 refine WL.a0 (Pm (.tuple #[(Iv r23), (Bv r24)]) rfl rfl (Pu (Iv r23) (Xt rfl rfl) rfl (Pu (Bv r24) (Xt rfl rfl) rfl (Pa (Iv r23) rfl rfl (Pa (Bv r24) rfl rfl (Nt ?_))))))
 obtain ⟨x30, hj31, h⟩ := bnd h
 refine Jf (fun (x30 : Bool) ρ' M' H' => M26.le M' ∧ [(g21, .cells (l35 a1).toArray 35 (0, 0))] :: F = H' ∧ ρ' 4 = (Bv x30)) x30 ?_ ?_
 have h331 := h
 have h := hj31
 refine WC.draw [0, 1, 0, 4, 12, 31, 63, 127, 255, 511, 1023, 1023, 3071, 7167, 16383, 32767, 65535, 131071, 131071, 393215, 917503, 2097151, 4194303, 8388607, 16777215, 33554431, 67108863, 134217727, 268435455, 536870911, 1073741823, 2147483647, 4294967295] (.pure 0 (.pure 2 (.pure 3 (.pure 4 (.alt 1 (.pure 5 (.pure 6 (.pure 7 (.pure 8 (.pure 9 (.pure 10 (.pure 11 (.pure 12 (.pure 13 (.pure 14 (.pure 15 (.pure 16 (.pure 17 (.pure 18 (.pure 19 (.pure 20 (.alt 21 (.pure 22 (.pure 23 (.pure 24 (.pure 25 (.pure 26 (.pure 27 (.pure 28 (.alt 29 (.pure 30 (.pure 31 (.pure 32 .done))) .none)))))))) .none))))))))))))))))) .none))))) mixed (by kernel_rfl) (Tp (GV a0) rfl (Mv (hρ 0)) rfl (Tp (pt g21 0) rfl (Fa fo35_0 rfl rfl) rfl (Tp (pt g21 2) rfl (Fa fo33_2 rfl rfl) rfl (Tp (Iv a1.W.Code) rfl (Lb 0 pl31 rfl rfl rfl) rfl ?_))))
 obtain ⟨r32, hr33, h⟩ := bnd h
 have hE := hE.mono hle27
 refine Ta rfl (Ca co24 (f_fault_Of_ok a0 _ hE r32 hr33) (args1 rfl)) rfl ?_ ?_
 rintro _ M34 _ hle35 ⟨_, ⟨rfl, rfl⟩, rfl⟩
 refine ⟨(Ss rfl (Lb 0 pl31 rfl rfl rfl) rfl (Ss rfl (Fa fo33_2 rfl rfl) rfl (Ss rfl (Fa fo35_0 rfl rfl) rfl (Sl rfl)))), ?_⟩
 refine WT.a0 (Tp (Bv (decide (r32 = a1.W.Code))) rfl (PO.eql rfl rfl) rfl (Tp (Bv (decide (r32 = a1.W.Code))) rfl (Mv rfl) rfl ?_))
 rcases Bt (decide (r32 = a1.W.Code)) with hb37 | hb37
 have h := ite_t hb37 h
 refine Tn (Bv r24) 24 rfl rfl rfl hb37 (Mv rfl) rfl (Tp (Bv r24) rfl (Pt rfl hb37 rfl) rfl (Tp (Bv r24) rfl (Mv rfl) rfl ?_))
 rcases Bt (r24) with hb38 | hb38
 have h := ite_t hb38 h
 refine Tn (Iv r23) 27 rfl rfl rfl hb38 (Mv rfl) rfl (Tn (pt g21 0) 27 rfl rfl rfl hb38 (Fa fo35_0 rfl rfl) rfl (Tn (pt g21 1) 27 rfl rfl rfl hb38 (Fa fo33_1 rfl rfl) rfl (Tn (Iv a1.W.At) 27 rfl rfl rfl hb38 (Lb 0 pl3 rfl rfl rfl) rfl (Tn (Bv (decide (r23 = a1.W.At))) 27 rfl rfl rfl hb38 (PO.eql rfl rfl) rfl (Tp (Bv (decide (r23 = a1.W.At))) rfl (Pt rfl hb38 rfl) rfl (Tp (Bv (decide (r23 = a1.W.At))) rfl (Mv rfl) rfl ?_))))))
 rcases Bt (decide (r23 = a1.W.At)) with hb39 | hb39
 have h := ite_t hb39 h
 refine Tn (GV a0) 34 rfl rfl rfl hb39 (Mv (hρ 0)) rfl (Tn (pt g21 0) 34 rfl rfl rfl hb39 (Fa fo35_0 rfl rfl) rfl (Tn (pt g21 0) 34 rfl rfl rfl hb39 (Fa fo33_0 rfl rfl) rfl (Tn (Sv a1.W.Op) 34 rfl rfl rfl hb39 (Lb 0 pl9 rfl rfl rfl) rfl ?_)))
 obtain ⟨r40, hr41, h⟩ := bnd h
 have hE := hE.mono hle35
 refine WT.altOn 34 rfl rfl rfl hb39 (Ca co30 (f_fault_Under_ok a0 a1.W.Op _ hE r40 hr41) (args2 rfl rfl)) rfl ?_ ?_
 rintro _ M42 _ hle43 ⟨_, ⟨rfl, rfl⟩, rfl⟩
 refine ⟨(Sl rfl), ?_⟩
 refine WT.a0 (Tp (Bv r40) rfl (Pt rfl hb39 rfl) rfl (Tp (Bv r40) rfl (Mv rfl) rfl ?_))
 rcases Bt (r40) with hb45 | hb45
 have h := ite_t hb45 h
 refine Tn (pt g21 3) 41 rfl rfl rfl hb45 (Fa fo35_1 rfl rfl) rfl (Tn (Iv a1.Record) 41 rfl rfl rfl hb45 (Lb 0 pl3 rfl rfl rfl) rfl (Tn (Bv (decide (a1.Record < 0))) 41 rfl rfl rfl hb45 (PO.lss rfl rfl) rfl (Tn (Bv (decide (a1.Record < 0))) 41 rfl rfl rfl hb45 (Mv rfl) rfl ?_)))
 rcases Bt (decide (a1.Record < 0)) with hb46 | hb46
 have h := ite_t hb46 h
 refine Tf 45 rfl rfl rfl hb46 rfl (Tg 45 rfl rfl rfl hb46 rfl ⟨(Sl rfl), ?_⟩ ?_)
 refine Tn (Bv true) 41 rfl rfl rfl hb45 (Pt rfl hb46 rfl) rfl (Tp (Bv true) rfl (Pt rfl hb45 rfl) rfl (Tp (Bv true) rfl (Ag rfl) rfl (Ti ?_)))
 obtain rfl := oi h
 exact Tj ⟨(hle35.trans hle43), rfl, rfl⟩
 exact Tz
 have h := ite_f hb46 h
 refine Tn (GV a0) 45 rfl rfl rfl hb46 (Mv (hρ 0)) rfl ?_
 obtain ⟨r47, hr48, h⟩ := bnd h
 have hE := hE.mono hle43
 refine WT.altOn 45 rfl rfl rfl hb46 (Ca co30 (f_fault_Under_ok a0 (⟨#[114, 101, 99, 111, 114, 100]⟩ : ByteArray) _ hE r47 hr48) (args2 rfl rfl)) rfl ?_ ?_
 rintro _ M49 _ hle50 ⟨_, ⟨rfl, rfl⟩, rfl⟩
 refine ⟨(Sl rfl), ?_⟩
 refine WT.a0 (Tn (Bv r47) 41 rfl rfl rfl hb45 (Pf rfl hb46 rfl) rfl (Tp (Bv r47) rfl (Pt rfl hb45 rfl) rfl (Tp (Bv r47) rfl (Ag rfl) rfl (Ti ?_))))
 obtain rfl := oi h
 exact Tj ⟨((hle35.trans hle43).trans hle50), rfl, rfl⟩
 exact Tz
 have h := ite_f hb45 h
 refine Tf 41 rfl rfl rfl hb45 rfl (Tf 41 rfl rfl rfl hb45 rfl (Tf 41 rfl rfl rfl hb45 rfl (Tf 41 rfl rfl rfl hb45 rfl (WT.pureOffU 45 rfl rfl rfl  rfl (WT.altOffU 45 rfl rfl rfl  rfl ⟨(Sl rfl), ?_⟩ ?_)))))
 refine Tf 41 rfl rfl rfl hb45 rfl (Tp (Bv false) rfl (Pf rfl hb45 rfl) rfl (Tp (Bv false) rfl (Ag rfl) rfl (Ti ?_)))
 obtain rfl := oi h
 exact Tj ⟨(hle35.trans hle43), rfl, rfl⟩
 exact Tz
 exact Tz
 have h := ite_f hb39 h
 refine Tf 34 rfl rfl rfl hb39 rfl (Tf 34 rfl rfl rfl hb39 rfl (Tf 34 rfl rfl rfl hb39 rfl (Tf 34 rfl rfl rfl hb39 rfl (Tg 34 rfl rfl rfl hb39 rfl ⟨(Sl rfl), ?_⟩ ?_))))
 refine Tp (Bv false) rfl (Pf rfl hb39 rfl) rfl (Tp (Bv false) rfl (Mv rfl) rfl (Tf 41 rfl rfl rfl rfl rfl (Tf 41 rfl rfl rfl rfl rfl (Tf 41 rfl rfl rfl rfl rfl (Tf 41 rfl rfl rfl rfl rfl (WT.pureOffU 45 rfl rfl rfl  rfl (WT.altOffU 45 rfl rfl rfl  rfl ⟨(Sl rfl), ?_⟩ ?_)))))))
 refine Tf 41 rfl rfl rfl rfl rfl (Tp (Bv false) rfl (Pf rfl rfl rfl) rfl (Tp (Bv false) rfl (Ag rfl) rfl (Ti ?_)))
 obtain rfl := oi h
 exact Tj ⟨hle35, rfl, rfl⟩
 exact Tz
 exact Tz
 have h := ite_f hb38 h
 refine Tf 27 rfl rfl rfl hb38 rfl (Tf 27 rfl rfl rfl hb38 rfl (Tf 27 rfl rfl rfl hb38 rfl (Tf 27 rfl rfl rfl hb38 rfl (Tf 27 rfl rfl rfl hb38 rfl (Tp (Bv false) rfl (Pf rfl hb38 rfl) rfl (Tp (Bv false) rfl (Mv rfl) rfl (Tf 34 rfl rfl rfl rfl rfl (Tf 34 rfl rfl rfl rfl rfl (Tf 34 rfl rfl rfl rfl rfl (Tf 34 rfl rfl rfl rfl rfl (Tg 34 rfl rfl rfl rfl rfl ⟨(Sl rfl), ?_⟩ ?_)))))))))))
 refine Tp (Bv false) rfl (Pf rfl rfl rfl) rfl (Tp (Bv false) rfl (Mv rfl) rfl (Tf 41 rfl rfl rfl rfl rfl (Tf 41 rfl rfl rfl rfl rfl (Tf 41 rfl rfl rfl rfl rfl (Tf 41 rfl rfl rfl rfl rfl (WT.pureOffU 45 rfl rfl rfl  rfl (WT.altOffU 45 rfl rfl rfl  rfl ⟨(Sl rfl), ?_⟩ ?_)))))))
 refine Tf 41 rfl rfl rfl rfl rfl (Tp (Bv false) rfl (Pf rfl rfl rfl) rfl (Tp (Bv false) rfl (Ag rfl) rfl (Ti ?_)))
 obtain rfl := oi h
 exact Tj ⟨hle35, rfl, rfl⟩
 exact Tz
 exact Tz
 have h := ite_f hb37 h
 refine Tf 24 rfl rfl rfl hb37 rfl (Tp (Bv false) rfl (Pf rfl hb37 rfl) rfl (Tp (Bv false) rfl (Mv rfl) rfl (Tf 27 rfl rfl rfl rfl rfl (Tf 27 rfl rfl rfl rfl rfl (Tf 27 rfl rfl rfl rfl rfl (Tf 27 rfl rfl rfl rfl rfl (Tf 27 rfl rfl rfl rfl rfl (Tp (Bv false) rfl (Pf rfl rfl rfl) rfl (Tp (Bv false) rfl (Mv rfl) rfl (Tf 34 rfl rfl rfl rfl rfl (Tf 34 rfl rfl rfl rfl rfl ?_)))))))))))
 refine Tf 34 rfl rfl rfl rfl rfl (Tf 34 rfl rfl rfl rfl rfl (Tg 34 rfl rfl rfl rfl rfl ⟨(Sl rfl), ?_⟩ ?_))
 refine Tp (Bv false) rfl (Pf rfl rfl rfl) rfl (Tp (Bv false) rfl (Mv rfl) rfl (Tf 41 rfl rfl rfl rfl rfl (Tf 41 rfl rfl rfl rfl rfl (Tf 41 rfl rfl rfl rfl rfl (Tf 41 rfl rfl rfl rfl rfl (WT.pureOffU 45 rfl rfl rfl  rfl (WT.altOffU 45 rfl rfl rfl  rfl ⟨(Sl rfl), ?_⟩ ?_)))))))
 refine Tf 41 rfl rfl rfl rfl rfl (Tp (Bv false) rfl (Pf rfl rfl rfl) rfl (Tp (Bv false) rfl (Ag rfl) rfl (Ti ?_)))
 obtain rfl := oi h
 exact Tj ⟨hle35, rfl, rfl⟩
 exact Tz
 exact Tz
 exact Tz
 rintro ρ31 M31 H31 ⟨hle31, rfl, hs31_4⟩
 exact Cr (Dr (Rf h [] rfl (Rs rfl hs31_4) (hle27.trans hle31) ⟨rfl, rfl⟩))

noncomputable def f_law06_BatchReads_l0 (a0 : (List Int)) (r44 : T_wire_Reader) (s_ : (Int × Int × GErr × Int × Int × ByteArray × Int)) : Option ((Int × Int × GErr × Int × Int × ByteArray × Int) ⊕ ((Int × Int × ByteArray × Int × Int × GErr) ⊕ (Int × Int × ByteArray × Int × Int × GErr))) :=
  match s_ with
  | (x59, x60, x61, x62, x63, x64, x65) =>
    (if (decide (x59 < (3 : Int))) = true then ((((f_batch_Next (⟨r44.b, x60, x61⟩ : T_wire_Reader)).bind fun (r87, r88, r89) => ((f_ref06_Next (⟨a0, (⟨x62, x63, x64, x65⟩ : T_ref02_State)⟩ : T_ref05_Cursor)).bind fun (r94, r95, r96, r97, r98) => ((f_ref06_Same r87 r94).bind fun (r103 : Bool) => (if (!r103) = true then (some (true, r95, r96, r97, r98, r88, r89)) else ((f_wire_Reader_At (⟨r44.b, r88, r89⟩ : T_wire_Reader)).bind fun (r115 : Int) => (if (decide (r115 ≠ r95)) = true then (some (true, r95, r96, r97, r98, r88, r89)) else ((f_wire_Reader_Err (⟨r44.b, r88, r89⟩ : T_wire_Reader)).bind fun (r121 : GErr) => ((f_fault_Of r121).bind fun (r126 : Int) => (some (decide (r126 ≠ r96), r95, r96, r97, r98, r88, r89)))))))))) : Option (Bool × Int × Int × ByteArray × Int × Int × GErr)).bind fun (x79, x80, x81, x82, x83, x84, x85) => (if x79 = true then (some (Sum.inr (Sum.inr (x80, x81, x82, x83, x84, x85)))) else (some (Sum.inl (IntKind.i64.wrap (x59 + (1 : Int)), x84, x85, x80, x81, x82, x83))))) else (some (Sum.inr (Sum.inl (x62, x63, x64, x65, x60, x61)))))
noncomputable def f_law06_BatchReads (a0 : (List Int)) : Option Bool :=
  (if (decide ((1500 : Int) < (a0.length : Int))) = true then ((f_law06_works).bind fun (r22 : Bool) => (some r22)) else ((f_batch_Read a0).bind fun (r27, r28) => ((f_ref06_Read a0).bind fun (r35, r36) => ((f_wire_Read a0).bind fun (r44 : T_wire_Reader) => ((((iter (f_law06_BatchReads_l0 a0 r44) ((0 : Int), r44.at_, r44.err, (0 : Int), (0 : Int), (⟨#[]⟩ : ByteArray), (0 : Int))).bind (Sum.elim (fun (x66, x67, x68, x69, x70, x71) => (some (Sum.inl (x66, x67, x68, x69, x70, x71)))) (fun (x72, x73, x74, x75, x76, x77) => (((some false)).bind fun r => some (Sum.inr r))))) : Option ((Int × Int × ByteArray × Int × Int × GErr) ⊕ Bool)).bind (Sum.elim (fun (x51, x52, x53, x54, x55, x56) => ((((f_ref06_Same r27 r35).bind fun (r134 : Bool) => (if r134 = true then ((f_law06_wrong r28 (⟨(⟨r36.Op, r36.Where, r36.Code⟩ : T_ref05_Wrong), (-1 : Int)⟩ : T_ref06_Wrong)).bind fun (r146 : Bool) => (if r146 = true then ((f_law06_works).bind fun (r152 : Bool) => (some r152)) else (some false))) else (some false))) : Option Bool).bind fun (x132 : Bool) => (some x132))) some))))))
def f_law06_BatchReads_post (a0 : (List Int)) (v0 : Value) : Bool → Value → IM → HL → Prop :=
  fun (r0 : Bool) (v : Value) (M' : IM) (H' : HL) => (.bool r0) = v ∧ H' = []
theorem f_law06_BatchReads_ok (a0 : (List Int)) (M : IM) (v0 : Value) (h0 : RS (Kd.int .u8) M v0 a0) (hE : Env M) (res : Bool) (h : f_law06_BatchReads a0 = some res) :
    Tri Tryz.prog 5 #[v0] M [] (f_law06_BatchReads_post a0 v0 res) := by
 unfold f_law06_BatchReads at h
 refine Te Tryz.func5 rfl rfl ?_
 intro F ρ hρ
 refine Sr (Pa (Bv false) rfl rfl (Nt (Cs (Sr (Pm v0 (hρ 0) rfl (Pu (Iv (a0.length : Int)) (PO.lenS Tryz.underlying40 rfl h0.len) rfl (Pu (Bv (decide ((1500 : Int) < (a0.length : Int)))) (PO.gtr rfl rfl) rfl (Nt (Cd (b := decide ((1500 : Int) < (a0.length : Int))) rfl (fun hb21 => ?_) (fun hb21 => ?_))))))))))
 have h := ite_t hb21 h
 refine Sr ?_
 obtain ⟨r22, hr23, h⟩ := bnd h
 refine We (Ca co7 (f_law06_works_ok _ hE r22 hr23) (args0)) rfl ?_
 rintro _ M24 _ hle25 ⟨_, ⟨rfl, rfl⟩, rfl⟩
 exact WL.a0 (Pa (Bv r22) rfl rfl (Nt (Cr (Tr (Rf h [] rfl (Rs rfl rfl) hle25 ⟨rfl, rfl⟩)))))
 have h := ite_f hb21 h
 refine Ck (Tc (Sr (Pm v0 (hρ 0) rfl ?_)))
 obtain ⟨⟨r27, r28⟩, hr29, h⟩ := bnd h
 refine We (Ca co18 (f_batch_Read_ok a0 _ _ h0 hE (r27, r28) hr29) (args1 rfl)) rfl ?_
 rintro _ M30 _ hle31 ⟨_, ⟨vq32_2, cq32_2, rfl, rfl, hq32_2⟩, rfl⟩
 refine WL.a1 (Pm (.tuple #[(a24_ r27 vq32_2), (GV r28)]) rfl rfl (Pu (a24_ r27 vq32_2) (Xt rfl rfl) rfl (Pu (GV r28) (Xt rfl rfl) rfl (We (Al ze24 rfl) rfl ?_))))
 rintro _ _ _ - ⟨rfl, g34, rfl, rfl⟩
 refine We (Sg (v := (a24_ r27 vq32_2)) (vl := (l24 r27 vq32_2)) (arr' := (l24 r27 vq32_2)) rfl sz24 rfl rfl (onesOf (Oc rfl (Oc rfl (Oc (Ow hq32_2) Oz)))) rfl rfl rfl) rfl ?_
 rintro _ _ _ - ⟨rfl, rfl⟩
 refine Pa (GV r28) rfl rfl (Ns (Pm v0 (hρ 0) rfl ?_))
 obtain ⟨⟨r35, r36⟩, hr37, h⟩ := bnd h
 have h0 := h0.mono hle31
 refine We (Ca co19 (f_ref06_Read_ok a0 _ _ h0 (r35, r36) hr37) (args1 rfl)) rfl ?_
 rintro _ M38 _ hle39 ⟨_, ⟨vq40_2, cq40_2, rfl, rfl, hq40_2⟩, rfl⟩
 refine WL.a1 (Pm (.tuple #[(a24_ r35 vq40_2), (a50_ r36)]) rfl rfl (Pu (a24_ r35 vq40_2) (Xt rfl rfl) rfl (Pu (a50_ r36) (Xt rfl rfl) rfl (We (Al ze24 rfl) rfl ?_))))
 rintro _ _ _ - ⟨rfl, g42, rfl, rfl⟩
 refine We (Al ze50 rfl) rfl ?_
 rintro _ _ _ - ⟨rfl, g43, rfl, rfl⟩
 refine WL.f1 (We (Sg (v := (a24_ r35 vq40_2)) (vl := (l24 r35 vq40_2)) (arr' := (l24 r35 vq40_2)) rfl sz24 rfl rfl (onesOf (Oc rfl (Oc rfl (Oc (Ow hq40_2) Oz)))) rfl rfl rfl) rfl ?_)
 rintro _ _ _ - ⟨rfl, rfl⟩
 refine WL.f1 (We (Sg (v := (a50_ r36)) (vl := (l50 r36)) (arr' := (l50 r36)) rfl sz50 rfl rfl (onb rfl) rfl rfl rfl) rfl ?_)
 rintro _ _ _ - ⟨rfl, rfl⟩
 refine Ns (Pm v0 (hρ 0) rfl ?_)
 obtain ⟨r44, hr45, h⟩ := bnd h
 have h0 := h0.mono hle39
 refine We (Ca co20 (f_wire_Read_ok a0 _ _ h0 r44 hr45) (args1 rfl)) rfl ?_
 rintro _ M46 _ hle47 ⟨_, ⟨g48, vq49_0, rfl, rfl, hq49_0⟩, rfl⟩
 refine WL.a1 (Pa (pt g48 0) rfl rfl (Nt (Cs (Sr (Pm (pt g48 0) rfl rfl (Pu (Bv false) (PO.ptrNil Tryz.underlying53 rfl) rfl (Nt (WC.condF (b := false) rfl rfl (Ck (Tc (Sr ?_)))))))))))
 refine Pm v0 (hρ 0) rfl ?_
 have h0 := h0.mono hle47
 refine Pu (.agg #[v0, (Iv 0), (Iv 0), (Sv ⟨#[]⟩), (Iv 0)]) (Bl (cl := [v0, (Iv 0), (Iv 0), (Sv ⟨#[]⟩), (Iv 0)]) ze57 fp57 (Parts.cons ((congrArg Value.cells (show ev _ _ = v0 from rfl)).trans h0.cells) Pz) rfl) rfl (We (EO.box (cs := #[v0, (Iv 0), (Iv 0), (Sv ⟨#[]⟩), (Iv 0)]) (congrArg Value.cells (show ev _ _ = (.agg #[v0, (Iv 0), (Iv 0), (Sv ⟨#[]⟩), (Iv 0)]) from rfl))) rfl ?_)
 rintro _ _ _ - ⟨rfl, g50, rfl, rfl⟩
 refine Pa (pt g50 0) rfl rfl (Nt ?_)
 obtain ⟨j57, hj57, h⟩ := bnd h
 refine WC.joinE (fun (p_ : (Int × Int × ByteArray × Int × Int × GErr)) ρ' M' H' => match p_ with | (x51, x52, x53, x54, x55, x56) => M46.le M' ∧ [(g50, .cells #[v0, (Iv x51), (Iv x52), (Sv x53), (Iv x54)] 57 (0, 0))] :: [(g48, .cells #[vq49_0, (Iv x55), (GV x56)] 85 (0, 0))] :: [(g43, .cells (l50 r36).toArray 50 (0, 0))] :: [(g42, .cells (l24 r35 vq40_2).toArray 24 (0, 0))] :: [(g34, .cells (l24 r27 vq32_2).toArray 24 (0, 0))] :: cq40_2 :: cq32_2 :: F = H' ∧ ρ' 3 = (pt g34 0) ∧ ρ' 4 = (GV r28) ∧ ρ' 5 = (pt g42 0) ∧ ρ' 6 = (pt g43 0)) j57 ?_ ?_
 have h357 := h
 have h := hj57
 refine Sr (Pa (Iv 0) rfl rfl (Nt (Bk (WC.f6 (WC.f5 (WC.f6 (WC.f6 (WC.f6 (WC.f6 (WC.f6 ?_))))))))))
 obtain ⟨e58, he58, hK58⟩ := bnd h
 clear h
 refine WC.loop he58 (fun (p_ : (Int × Int × GErr × Int × Int × ByteArray × Int)) ρ' M' H' => match p_ with | (x59, x60, x61, x62, x63, x64, x65) => M46.le M' ∧ [(g50, .cells #[v0, (Iv x62), (Iv x63), (Sv x64), (Iv x65)] 57 (0, 0))] :: [(g48, .cells #[vq49_0, (Iv x60), (GV x61)] 85 (0, 0))] :: [(g43, .cells (l50 r36).toArray 50 (0, 0))] :: [(g42, .cells (l24 r35 vq40_2).toArray 24 (0, 0))] :: [(g34, .cells (l24 r27 vq32_2).toArray 24 (0, 0))] :: cq40_2 :: cq32_2 :: F = H' ∧ ρ' 3 = (pt g34 0) ∧ ρ' 4 = (GV r28) ∧ ρ' 5 = (pt g42 0) ∧ ρ' 6 = (pt g43 0) ∧ ρ' 7 = (pt g48 0) ∧ ρ' 8 = (pt g50 0) ∧ ρ' 9 = (Iv x59)) ?_ ?_
 exact ⟨lr, rfl, rfl, rfl, rfl, rfl, rfl, rfl, rfl⟩
 rintro ⟨x59, x60, x61, x62, x63, x64, x65⟩ o58 ρ58 M58 H58 h ⟨hle58, rfl, hs58_3, hs58_4, hs58_5, hs58_6, hs58_7, hs58_8, hs58_9⟩
 unfold f_law06_BatchReads_l0 at h
 refine Cs (Sr (Pm (Iv x59) hs58_9 rfl (Pu (Bv (decide (x59 < 3))) (PO.lss rfl rfl) rfl (Nt (Cd (b := decide (x59 < 3)) rfl (fun hb78 => ?_) (fun hb78 => ?_))))))
 have h := ite_t hb78 h
 refine Ck (Tc (Cs (Bk ?_)))
 obtain ⟨j86, hj86, h⟩ := bnd h
 refine Jf (fun (p_ : (Bool × Int × Int × ByteArray × Int × Int × GErr)) ρ' M' H' => match p_ with | (x79, x80, x81, x82, x83, x84, x85) => M58.le M' ∧ [(g50, .cells #[v0, (Iv x80), (Iv x81), (Sv x82), (Iv x83)] 57 (0, 0))] :: [(g48, .cells #[vq49_0, (Iv x84), (GV x85)] 85 (0, 0))] :: [(g43, .cells (l50 r36).toArray 50 (0, 0))] :: [(g42, .cells (l24 r35 vq40_2).toArray 24 (0, 0))] :: [(g34, .cells (l24 r27 vq32_2).toArray 24 (0, 0))] :: cq40_2 :: cq32_2 :: F = H' ∧ ρ' 3 = (pt g34 0) ∧ ρ' 4 = (GV r28) ∧ ρ' 5 = (pt g42 0) ∧ ρ' 6 = (pt g43 0) ∧ ρ' 7 = (pt g48 0) ∧ ρ' 8 = (pt g50 0) ∧ ρ' 9 = (Iv x59) ∧ ρ' 61 = (Bv x79)) j86 ?_ ?_
 have h386 := h
 have h := hj86
 refine WC.draw [0, 1, 0, 7, 15, 31, 63, 127, 255, 127, 639, 1663, 3711, 7807, 16383, 32767, 65535, 131071, 262143, 524287, 131071, 1179647, 3276799, 7471103, 15859711, 33554431, 67108863] (.pure 0 (.pure 2 (.alt 1 (.alt 3 (.alt 4 (.pure 5 (.pure 6 (.pure 7 (.pure 9 (.pure 10 (.pure 11 (.pure 12 (.pure 13 (.alt 8 (.pure 14 (.pure 15 (.pure 16 (.pure 17 (.pure 20 (.pure 21 (.pure 22 (.pure 23 (.pure 24 (.alt 18 (.alt 19 (.pure 25 (.pure 26 .done)) .none) .none)))))))))) .none))))))))) .none) .none) .none))) mixed (by kernel_rfl) (Tp (pt g48 0) rfl (Mv hs58_7) rfl (Tp (pt g50 0) rfl (Mv hs58_8) rfl ?_))
 obtain ⟨⟨r87, r88, r89⟩, hr90, h⟩ := bnd h
 refine WT.f1 ?_
 have hq49_0 := hq49_0.mono hle58
 have hE := hE.mono (((hle31.trans hle39).trans hle47).trans hle58)
 refine Ta rfl (Cb co21 (f_batch_Next_ok (⟨r44.b, x60, x61⟩ : T_wire_Reader) _ _ _ hq49_0 hE (r87, r88, r89) hr90) (args1 rfl)) rfl ?_ ?_
 rintro _ M91 _ hle92 ⟨_, ⟨vq93_2, cq93_2, rfl, rfl, hq93_2⟩, rfl⟩
 refine ⟨(Ss rfl (Mv hs58_8) rfl (Sl rfl)), ?_⟩
 refine WT.a2 ?_
 obtain ⟨⟨r94, r95, r96, r97, r98⟩, hr99, h⟩ := bnd h
 refine WT.f2 ?_
 have h0 := h0.mono (hle58.trans hle92)
 refine Ta rfl (Cb co22 (f_ref06_Next_ok (⟨a0, (⟨x62, x63, x64, x65⟩ : T_ref02_State)⟩ : T_ref05_Cursor) _ _ _ h0 (r94, r95, r96, r97, r98) hr99) (args1 rfl)) rfl ?_ ?_
 rintro _ M100 _ hle101 ⟨_, ⟨vq102_2, cq102_2, rfl, rfl, hq102_2⟩, rfl⟩
 refine ⟨(Sl rfl), ?_⟩
 refine WT.a2 ?_
 obtain ⟨r103, hr104, h⟩ := bnd h
 refine WT.f1 (WT.f3 ?_)
 have hq93_2 := hq93_2.mono hle101
 refine Ta rfl (EO.call2 co12 (Tri.lend hq93_2.excl fun w0_ H0_ hs0_ => (Tri.lend hq102_2.excl fun w1_ H1_ hs1_ => (f_ref06_Same_ok r87 r94 _ _ _ ((hq93_2.rs hs0_).mono (IM.le_add _ _)) ((hq102_2.mono (IM.le_add _ _)).rs hs1_) r103 hr104))) (args2 rfl rfl)) rfl ?_ ?_
 rintro _ _ _ hle106 ⟨_, ⟨Ml111, Hl112, hll113, rfl, rfl, ⟨Ml108, Hl109, hll110, rfl, rfl, ⟨rfl, rfl⟩⟩⟩, rfl⟩
 refine ⟨(Sl rfl), ?_⟩
 refine WT.a2 (Tp (Bv (!r103)) rfl (PO.not rfl) rfl (Tp (Bv (!r103)) rfl (Mv rfl) rfl ?_))
 rcases Bt (!r103) with hb114 | hb114
 have h := ite_t hb114 h
 refine Tf 41 rfl rfl rfl hb114 rfl (Tf 41 rfl rfl rfl hb114 rfl (Tf 41 rfl rfl rfl hb114 rfl (Tf 41 rfl rfl rfl hb114 rfl (Tf 41 rfl rfl rfl hb114 rfl (Tf 41 rfl rfl rfl hb114 rfl (Tg 41 rfl rfl rfl hb114 rfl ⟨(St (Sf 41 rfl rfl rfl hb114 rfl) (St (Sf 41 rfl rfl rfl hb114 rfl) (St (Sf 41 rfl rfl rfl hb114 rfl) (St (Sf 41 rfl rfl rfl hb114 rfl) (St (Sf 41 rfl rfl rfl hb114 rfl) (Sl rfl)))))), ?_⟩ ?_))))))
 refine Tf 41 rfl rfl rfl hb114 rfl (Tp (Bv true) rfl (Pt rfl hb114 rfl) rfl (Tp (Bv true) rfl (Mv rfl) rfl (Tf 51 rfl rfl rfl rfl rfl (Tf 51 rfl rfl rfl rfl rfl (Tf 51 rfl rfl rfl rfl rfl (Tf 51 rfl rfl rfl rfl rfl (Tf 51 rfl rfl rfl rfl rfl (Tf 51 rfl rfl rfl rfl rfl (Tg 51 rfl rfl rfl rfl rfl ⟨(St (Sf 51 rfl rfl rfl rfl rfl) (St (Sf 51 rfl rfl rfl rfl rfl) (St (Sf 51 rfl rfl rfl rfl rfl) (St (Sf 51 rfl rfl rfl rfl rfl) (St (Sf 51 rfl rfl rfl rfl rfl) (Sl rfl)))))), ?_⟩ ?_)))))))))
 refine Tg 51 rfl rfl rfl rfl rfl ⟨(St (Sf 51 rfl rfl rfl rfl rfl) (St (Sf 51 rfl rfl rfl rfl rfl) (St (Sf 51 rfl rfl rfl rfl rfl) (St (Sf 51 rfl rfl rfl rfl rfl) (St (Sf 51 rfl rfl rfl rfl rfl) (Sl rfl)))))), ?_⟩ ?_
 refine Tf 51 rfl rfl rfl rfl rfl (Tp (Bv true) rfl (Pt rfl rfl rfl) rfl (Ti (Dr (Dr ?_))))
 obtain rfl := oi h
 exact Tj ⟨((hle92.trans hle101).trans hle106), rfl, hs58_3, hs58_4, hs58_5, hs58_6, hs58_7, hs58_8, hs58_9, rfl⟩
 exact Tz
 exact Tz
 exact Tz
 have h := ite_f hb114 h
 refine Tn (pt g48 0) 41 rfl rfl rfl hb114 (Mv hs58_7) rfl (Tn (pt g50 0) 41 rfl rfl rfl hb114 (Mv hs58_8) rfl (Tn (pt g50 0) 41 rfl rfl rfl hb114 (Nk rfl) rfl (Tn (pt g50 1) 41 rfl rfl rfl hb114 (Fa fo57_1 rfl rfl) rfl (Tn (pt g50 1) 41 rfl rfl rfl hb114 (Fa fo50_0 rfl rfl) rfl (Tn (Iv r95) 41 rfl rfl rfl hb114 (Lb 2 pl3 rfl rfl rfl) rfl ?_)))))
 obtain ⟨r115, hr116, h⟩ := bnd h
 refine WT.f3 ?_
 have hq49_0 := hq49_0.mono ((hle92.trans hle101).trans hle106)
 refine WT.altOn 41 rfl rfl rfl hb114 (Cb co23 (f_wire_Reader_At_ok (⟨r44.b, r88, r89⟩ : T_wire_Reader) _ _ _ hq49_0 r115 hr116) (args1 rfl)) rfl ?_ ?_
 rintro _ M117 _ hle118 ⟨_, ⟨rfl, rfl⟩, rfl⟩
 refine ⟨(St (StabA.on 41 rfl rfl rfl hb114 (Lb 3 pl3 rfl rfl rfl) rfl) (St (StabA.on 41 rfl rfl rfl hb114 (Fa fo50_0 rfl rfl) rfl) (St (StabA.on 41 rfl rfl rfl hb114 (Fa fo57_1 rfl rfl) rfl) (St (StabA.on 41 rfl rfl rfl hb114 (Nk rfl) rfl) (St (StabA.on 41 rfl rfl rfl hb114 (Mv hs58_8) rfl) (Sl rfl)))))), ?_⟩
 refine WT.a1 (Tn (Bv (decide (r115 ≠ r95))) 41 rfl rfl rfl hb114 (PO.neq rfl rfl) rfl (Tp (Bv (decide (r115 ≠ r95))) rfl (Pf rfl hb114 rfl) rfl (Tp (Bv (decide (r115 ≠ r95))) rfl (Mv rfl) rfl ?_)))
 rcases Bt (decide (r115 ≠ r95)) with hb120 | hb120
 have h := ite_t hb120 h
 refine Tf 51 rfl rfl rfl hb120 rfl (Tf 51 rfl rfl rfl hb120 rfl (Tf 51 rfl rfl rfl hb120 rfl (Tf 51 rfl rfl rfl hb120 rfl (Tf 51 rfl rfl rfl hb120 rfl (Tf 51 rfl rfl rfl hb120 rfl (Tg 51 rfl rfl rfl hb120 rfl ⟨(St (Sf 51 rfl rfl rfl hb120 rfl) (St (Sf 51 rfl rfl rfl hb120 rfl) (St (Sf 51 rfl rfl rfl hb120 rfl) (St (Sf 51 rfl rfl rfl hb120 rfl) (St (Sf 51 rfl rfl rfl hb120 rfl) (Sl rfl)))))), ?_⟩ ?_))))))
 refine Tg 51 rfl rfl rfl hb120 rfl ⟨(St (Sf 51 rfl rfl rfl hb120 rfl) (St (Sf 51 rfl rfl rfl hb120 rfl) (St (Sf 51 rfl rfl rfl hb120 rfl) (St (Sf 51 rfl rfl rfl hb120 rfl) (St (Sf 51 rfl rfl rfl hb120 rfl) (Sl rfl)))))), ?_⟩ ?_
 refine Tf 51 rfl rfl rfl hb120 rfl (Tp (Bv true) rfl (Pt rfl hb120 rfl) rfl (Ti (Qa (Dr (Qa (Dr (WQ.f6 (WQ.f6 (WQ.f6 (WQ.f6 (WQ.f6 ?_)))))))))))
 refine WQ.f5 (WQ.f6 ?_)
 obtain rfl := oi h
 exact Tj ⟨(((hle92.trans hle101).trans hle106).trans hle118), rfl, hs58_3, hs58_4, hs58_5, hs58_6, hs58_7, hs58_8, hs58_9, rfl⟩
 exact Tz
 exact Tz
 have h := ite_f hb120 h
 refine Tn (pt g48 0) 51 rfl rfl rfl hb120 (Mv hs58_7) rfl (Tn (pt g50 0) 51 rfl rfl rfl hb120 (Mv hs58_8) rfl (Tn (pt g50 0) 51 rfl rfl rfl hb120 (Nk rfl) rfl (Tn (pt g50 1) 51 rfl rfl rfl hb120 (Fa fo57_1 rfl rfl) rfl (Tn (pt g50 2) 51 rfl rfl rfl hb120 (Fa fo50_1 rfl rfl) rfl (Tn (Iv r96) 51 rfl rfl rfl hb120 (Lb 3 pl31 rfl rfl rfl) rfl ?_)))))
 obtain ⟨r121, hr122, h⟩ := bnd h
 have hq49_0 := hq49_0.mono hle118
 refine WT.altOn 51 rfl rfl rfl hb120 (Cb co25 (f_wire_Reader_Err_ok (⟨r44.b, r88, r89⟩ : T_wire_Reader) _ _ _ hq49_0 r121 hr122) (args1 rfl)) rfl ?_ ?_
 rintro _ M123 _ hle124 ⟨_, ⟨rfl, rfl⟩, rfl⟩
 refine ⟨(St (StabA.on 51 rfl rfl rfl hb120 (Lb 3 pl31 rfl rfl rfl) rfl) (St (StabA.on 51 rfl rfl rfl hb120 (Fa fo50_1 rfl rfl) rfl) (St (StabA.on 51 rfl rfl rfl hb120 (Fa fo57_1 rfl rfl) rfl) (St (StabA.on 51 rfl rfl rfl hb120 (Nk rfl) rfl) (St (StabA.on 51 rfl rfl rfl hb120 (Mv hs58_8) rfl) (Sl rfl)))))), ?_⟩
 refine WT.a1 ?_
 obtain ⟨r126, hr127, h⟩ := bnd h
 have hE := hE.mono ((((hle92.trans hle101).trans hle106).trans hle118).trans hle124)
 refine WT.altOn 51 rfl rfl rfl hb120 (Ca co24 (f_fault_Of_ok r121 _ hE r126 hr127) (args1 rfl)) rfl ?_ ?_
 rintro _ M128 _ hle129 ⟨_, ⟨rfl, rfl⟩, rfl⟩
 refine ⟨(St (StabA.on 51 rfl rfl rfl hb120 (Lb 3 pl31 rfl rfl rfl) rfl) (St (StabA.on 51 rfl rfl rfl hb120 (Fa fo50_1 rfl rfl) rfl) (St (StabA.on 51 rfl rfl rfl hb120 (Fa fo57_1 rfl rfl) rfl) (St (StabA.on 51 rfl rfl rfl hb120 (Nk rfl) rfl) (St (StabA.on 51 rfl rfl rfl hb120 (Mv hs58_8) rfl) (Sl rfl)))))), ?_⟩
 refine WT.a0 (Tn (Bv (decide (r126 ≠ r96))) 51 rfl rfl rfl hb120 (PO.neq rfl rfl) rfl (Tp (Bv (decide (r126 ≠ r96))) rfl (Pf rfl hb120 rfl) rfl (Ti (Qa (Dr (Qa (Dr (WQ.f6 (WQ.f6 (WQ.f6 (WQ.f6 ?_)))))))))))
 refine WQ.f6 (WQ.f5 (WQ.f6 ?_))
 obtain rfl := oi h
 exact Tj ⟨(((((hle92.trans hle101).trans hle106).trans hle118).trans hle124).trans hle129), rfl, hs58_3, hs58_4, hs58_5, hs58_6, hs58_7, hs58_8, hs58_9, rfl⟩
 exact Tz
 exact Tz
 exact Tz
 exact Tz
 exact Tz
 exact Tz
 obtain ⟨x79, x80, x81, x82, x83, x84, x85⟩ := j86
 rintro ρ86 M86 H86 ⟨hle86, rfl, hs86_3, hs86_4, hs86_5, hs86_6, hs86_7, hs86_8, hs86_9, hs86_61⟩
 refine Cd (b := x79) hs86_61 (fun hb131 => ?_) (fun hb131 => ?_)
 have h := ite_t hb131 h
 refine Sr (Pa (Bv false) rfl rfl (Nt (Cr (Br (Tr (WQ.leaveR (Sum.inr (x80, x81, x82, x83, x84, x85)) (oi h).symm (fun heq58 => ?_)))))))
 subst heq58
 have h := (elimR hK58)
 refine Br (Tr ?_)
 have h := KK.early h h357
 exact Dr (Dr (Dr (Dr (Dr (Dr (Dr (Rf h [] rfl (Rs rfl rfl) ((((hle31.trans hle39).trans hle47).trans hle58).trans hle86) ⟨rfl, rfl⟩)))))))
 have h := ite_f hb131 h
 exact Ck (Bn (Tc (Cg (Pm (Iv x59) hs86_9 rfl (Pu (Iv (IntKind.i64.wrap (x59 + 1))) (PO.add rfl rfl) rfl (Pa (Iv (IntKind.i64.wrap (x59 + 1))) rfl rfl (Wz (WQ.again (IntKind.i64.wrap (x59 + 1), x84, x85, x80, x81, x82, x83) (oi h).symm ⟨(hle58.trans hle86), rfl, hs86_3, hs86_4, hs86_5, hs86_6, hs86_7, hs86_8, rfl⟩))))))))
 have h := ite_f hb78 h
 refine WC.exit (WQ.thenE (WQ.leaveE (Sum.inl (x62, x63, x64, x65, x60, x61)) (oi h).symm (fun heq58 => ?_)))
 subst heq58
 have h := elimL hK58
 exact WQ.blockH (WQ.thenFE h ⟨hle58, rfl, hs58_3, hs58_4, hs58_5, hs58_6⟩)
 rintro ⟨x51, x52, x53, x54, x55, x56⟩ ρ57 M57 H57 rfl ⟨hle57, rfl, hs57_3, hs57_4, hs57_5, hs57_6⟩
 have h := (Sum.elim_inl _ _ _).symm.trans h
 obtain ⟨x132, hj133, h⟩ := bnd h
 refine Jf (fun (x132 : Bool) ρ' M' H' => M57.le M' ∧ [(g50, .cells #[v0, (Iv x51), (Iv x52), (Sv x53), (Iv x54)] 57 (0, 0))] :: [(g48, .cells #[vq49_0, (Iv x55), (GV x56)] 85 (0, 0))] :: [(g43, .cells (l50 r36).toArray 50 (0, 0))] :: [(g42, .cells (l24 r35 vq40_2).toArray 24 (0, 0))] :: [(g34, .cells (l24 r27 vq32_2).toArray 24 (0, 0))] :: cq40_2 :: cq32_2 :: F = H' ∧ ρ' 2 = (Bv x132)) x132 ?_ ?_
 have h3133 := h
 have h := hj133
 refine Cg (Pu (a24_ r27 vq32_2) (La (cs := (l24 r27 vq32_2)) 4 ag24 sz24 hs57_3 rfl rfl) rfl (Pu (a24_ r35 vq40_2) (La (cs := (l24 r35 vq40_2)) 3 ag24 sz24 hs57_5 rfl rfl) rfl ?_))
 obtain ⟨r134, hr135, h⟩ := bnd h
 refine WL.f5 (WL.f6 ?_)
 have hq32_2 := hq32_2.mono ((hle39.trans hle47).trans hle57)
 have hq40_2 := hq40_2.mono (hle47.trans hle57)
 refine We (EO.call2 co12 (Tri.lend hq32_2.excl fun w0_ H0_ hs0_ => (Tri.lend hq40_2.excl fun w1_ H1_ hs1_ => (f_ref06_Same_ok r27 r35 _ _ _ ((hq32_2.rs hs0_).mono (IM.le_add _ _)) ((hq40_2.mono (IM.le_add _ _)).rs hs1_) r134 hr135))) (args2 rfl rfl)) rfl ?_
 rintro _ _ _ hle137 ⟨_, ⟨Ml142, Hl143, hll144, rfl, rfl, ⟨Ml139, Hl140, hll141, rfl, rfl, ⟨rfl, rfl⟩⟩⟩, rfl⟩
 refine WL.a2 (Pm (Bv r134) rfl rfl ?_)
 rcases Bt (r134) with hb145 | hb145
 have h := ite_t hb145 h
 refine On 65 rfl rfl hb145 (Pm (GV r28) hs57_4 rfl (On 65 rfl rfl hb145 (Pu (pt g43 2) (Fa fo50_2 hs57_6 rfl) rfl (On 65 rfl rfl hb145 (Pu (Sv r36.Op) (Lb 4 pl9 rfl rfl rfl) rfl (On 65 rfl rfl hb145 (Pu (pt g43 3) (Fa fo50_3 hs57_6 rfl) rfl (On 65 rfl rfl hb145 (Pu (Iv r36.Where) (Lb 4 pl3 rfl rfl rfl) rfl (On 65 rfl rfl hb145 (Pu (pt g43 1) (Fa fo50_1 hs57_6 rfl) rfl ?_)))))))))))
 refine On 65 rfl rfl hb145 (Pu (Iv r36.Code) (Lb 4 pl31 rfl rfl rfl) rfl (On 65 rfl rfl hb145 (Pu (.agg #[(Sv r36.Op), (Iv r36.Where), (Iv r36.Code)]) (Bl (cl := [(Sv r36.Op), (Iv r36.Where), (Iv r36.Code)]) ze33 fp33 (Pc (Sv r36.Op) rfl rfl (Pc (Iv r36.Where) rfl rfl (Pc (Iv r36.Code) rfl rfl Pz))) rfl) rfl (On 65 rfl rfl hb145 (Pu (.agg #[(Sv r36.Op), (Iv r36.Where), (Iv r36.Code), (Iv (-1 : Int))]) (Bl (cl := [(Sv r36.Op), (Iv r36.Where), (Iv r36.Code), (Iv (-1 : Int))]) ze35 fp35 (Pc (.agg #[(Sv r36.Op), (Iv r36.Where), (Iv r36.Code)]) rfl rfl (Pc (Iv (-1 : Int)) rfl rfl Pz)) rfl) rfl (On 65 rfl rfl hb145 ?_))))))
 obtain ⟨r146, hr147, h⟩ := bnd h
 have hE := hE.mono ((((hle31.trans hle39).trans hle47).trans hle57).trans hle137)
 refine We (Ca co8 (f_law06_wrong_ok r28 (⟨(⟨r36.Op, r36.Where, r36.Code⟩ : T_ref05_Wrong), (-1 : Int)⟩ : T_ref06_Wrong) _ hE r146 hr147) (args2 rfl rfl)) rfl ?_
 rintro _ M148 _ hle149 ⟨_, ⟨rfl, rfl⟩, rfl⟩
 refine WL.a0 (Pu (Bv r146) (Pt rfl hb145 rfl) rfl (Pm (Bv r146) rfl rfl ?_))
 rcases Bt (r146) with hb151 | hb151
 have h := ite_t hb151 h
 refine On 77 rfl rfl hb151 ?_
 obtain ⟨r152, hr153, h⟩ := bnd h
 have hE := hE.mono hle149
 refine We (Ca co7 (f_law06_works_ok _ hE r152 hr153) (args0)) rfl ?_
 rintro _ M154 _ hle155 ⟨_, ⟨rfl, rfl⟩, rfl⟩
 refine WL.a0 (Pu (Bv r152) (Pt rfl hb151 rfl) rfl (Pa (Bv r152) rfl rfl (Wz (Qa (WQ.f6 (WQ.f6 (WQ.f6 (WQ.f6 (WQ.f6 ?_)))))))))
 obtain rfl := oi h
 exact Tj ⟨((hle137.trans hle149).trans hle155), rfl, rfl⟩
 have h := ite_f hb151 h
 refine Of 77 rfl rfl hb151 rfl (Pu (Bv false) (Pf rfl hb151 rfl) rfl (Pa (Bv false) rfl rfl (Wz (Qa (WQ.f6 (WQ.f6 (WQ.f6 (WQ.f6 (WQ.f6 ?_)))))))))
 obtain rfl := oi h
 exact Tj ⟨(hle137.trans hle149), rfl, rfl⟩
 have h := ite_f hb145 h
 iterate 10 refine Of 65 rfl rfl hb145 rfl ?_
 refine Pu (Bv false) (Pf rfl hb145 rfl) rfl (Pm (Bv false) rfl rfl (Of 77 rfl rfl rfl rfl (Pu (Bv false) (Pf rfl rfl rfl) rfl (Pa (Bv false) rfl rfl (Wz (Qa (WQ.f6 (WQ.f6 (WQ.f6 (WQ.f6 (WQ.f6 ?_)))))))))))
 obtain rfl := oi h
 exact Tj ⟨hle137, rfl, rfl⟩
 rintro ρ133 M133 H133 ⟨hle133, rfl, hs133_2⟩
 exact Cr (Dr (Dr (Dr (Dr (Dr (Dr (Dr (Rf h [] rfl (Rs rfl hs133_2) ((((hle31.trans hle39).trans hle47).trans hle57).trans hle133) ⟨rfl, rfl⟩))))))))


end Go.Proofs.YtjiffdgidodebaaGreatDoor.G
