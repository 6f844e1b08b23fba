/- Go functions: what they come to, and that they do. Printed by a program of the session (gen). -/
import Derived.Test.YtjiffdgidodebaaGreatDoorRF
import Derived.Test.YtjiffdgidodebaaGreatDoorR13
import Derived.Test.YtjiffdgidodebaaGreatDoorKShar2
import Derived.Test.YtjiffdgidodebaaGreatDoorKConv
import Derived.Test.YtjiffdgidodebaaGreatDoorKTight
set_option linter.unusedVariables false
set_option linter.unusedSimpArgs false
set_option maxHeartbeats 8000000
set_option maxRecDepth 100000
namespace Go.Proofs.YtjiffdgidodebaaGreatDoor.G
open Go Go.KK

noncomputable def f_ref05_Cursor_End (a0 : T_ref05_Cursor) : Option (Int × Int × ByteArray × Int) :=
  ((f_ref02_End a0.B a0.S).bind fun (r21 : T_ref02_State) => (some (r21.At, r21.Code, r21.Op, r21.Where)))
def f_ref05_Cursor_End_post (a0 : T_ref05_Cursor) (v0_0 : Value) (g0 : Nat) : (Int × Int × ByteArray × Int) → Value → IM → HL → Prop :=
  fun (p_ : (Int × Int × ByteArray × Int)) (v : Value) (M' : IM) (H' : HL) => match p_ with | (r0, r1, r2, r3) => (.tuple #[]) = v ∧ H' = [[(g0, .cells #[v0_0, (.int .i64 r0), (.int .i64 r1), (.string r2), (.int .i64 r3)] 57 (0, 0))]]
theorem f_ref05_Cursor_End_ok (a0 : T_ref05_Cursor) (M : IM) (v0_0 : Value) (g0 : Nat) (h0_0 : RS (Kd.int .u8) M v0_0 a0.B) (res : (Int × Int × ByteArray × Int)) (h : f_ref05_Cursor_End a0 = some res) :
    Tri Tryz.prog 43 #[(pt g0 0)] M [[(g0, .cells (l57 a0 v0_0).toArray 57 (0, 0))]] (f_ref05_Cursor_End_post a0 v0_0 g0 res) := by
 unfold f_ref05_Cursor_End at h
 refine Te Tryz.func43 rfl rfl ?_
 intro F ρ hρ
 refine WC.draw [0, 0, 2, 6, 14, 0, 32, 96, 224, 510, 1023, 2047, 4095] (.pure 0 (.pure 1 (.pure 2 (.pure 3 (.pure 4 (.pure 5 (.pure 6 (.pure 7 (.pure 8 (.alt 9 (.pure 10 (.pure 11 (.alt 12 .done .none))) .none)))))))))) mixed (by kernel_rfl) (Tp (pt g0 0) rfl (Mv (hρ 0)) rfl (Tp (pt g0 0) rfl (Mv (hρ 0)) rfl (Tp (pt g0 0) rfl (Nk rfl) rfl (Tp (pt g0 0) rfl (Fa fo57_0 rfl rfl) rfl (Tp v0_0 rfl (Lb 0 pl40 rfl rfl rfl) rfl (Tp (pt g0 0) rfl (Mv (hρ 0)) rfl (Tp (pt g0 0) rfl (Nk rfl) rfl (Tp (pt g0 1) rfl (Fa fo57_1 rfl rfl) rfl (Tp (a50_ a0.S) rfl (La (cs := (l50 a0.S)) 0 ag50 sz50 rfl rfl rfl) rfl ?_)))))))))
 obtain ⟨r21, hr22, h⟩ := bnd h
 refine Ta rfl (Ca co79 (f_ref02_End_ok a0.B a0.S _ _ h0_0 r21 hr22) (args2 rfl rfl)) rfl ?_ ?_
 rintro _ M23 _ hle24 ⟨_, ⟨rfl, rfl⟩, rfl⟩
 refine ⟨(Sk 8 rfl (Ss rfl (Mv (hρ 0)) rfl trivial)), ?_⟩
 refine WT.a0 (Tp (pt g0 0) rfl (Nk rfl) rfl (Tp (pt g0 1) rfl (Fa fo57_1 rfl rfl) rfl (Ta rfl (Sg (v := (a50_ r21)) (vl := (l50 r21)) (arr' := [v0_0, (Iv r21.At), (Iv r21.Code), (Sv r21.Op), (Iv r21.Where)]) rfl sz50 rfl rfl (onb rfl) rfl rfl rfl) rfl ?_ ?_)))
 rintro _ _ _ - ⟨rfl, rfl⟩
 refine ⟨(Sl rfl), ?_⟩
 exact Ti (WQ.endsF h [[(g0, .cells #[v0_0, (Iv r21.At), (Iv r21.Code), (Sv r21.Op), (Iv r21.Where)] 57 (0, 0))]] rfl (results0 rfl) hle24 ⟨rfl, rfl⟩)
 exact Tz
 exact Tz

noncomputable def f_ref06_Read (a0 : (List Int)) : Option (T_api_Batch × T_ref02_State) :=
  ((f_ref06_Next (⟨a0, (⟨(0 : Int), (0 : Int), (⟨#[]⟩ : ByteArray), (0 : Int)⟩ : T_ref02_State)⟩ : T_ref05_Cursor)).bind fun (r24, r25, r26, r27, r28) => ((f_ref05_Cursor_End (⟨a0, (⟨r25, r26, r27, r28⟩ : T_ref02_State)⟩ : T_ref05_Cursor)).bind fun (r34, r35, r36, r37) => (if (decide (r35 ≠ (0 : Int))) = true then (some ((⟨(0 : Int), (0 : Int), []⟩ : T_api_Batch), (⟨r34, r35, r36, r37⟩ : T_ref02_State))) else (some (r24, (⟨r34, r35, r36, r37⟩ : T_ref02_State))))))
def f_ref06_Read_post (a0 : (List Int)) (v0 : Value) : (T_api_Batch × T_ref02_State) → Value → IM → HL → Prop :=
  fun (p_ : (T_api_Batch × T_ref02_State)) (v : Value) (M' : IM) (H' : HL) => match p_ with | (r0, r1) => ∃ vz0_2 cz0_2, (.tuple #[(.agg #[(.int .i64 r0.Term), (.int .i64 r0.Base), vz0_2]), (.agg #[(.int .i64 r1.At), (.int .i64 r1.Code), (.string r1.Op), (.int .i64 r1.Where)])]) = v ∧ H' = [cz0_2] ∧ OwnS kd_api_Record M' vz0_2 r0.Records cz0_2
theorem f_ref06_Read_ok (a0 : (List Int)) (M : IM) (v0 : Value) (h0 : RS (Kd.int .u8) M v0 a0) (res : (T_api_Batch × T_ref02_State)) (h : f_ref06_Read a0 = some res) :
    Tri Tryz.prog 19 #[v0] M [] (f_ref06_Read_post a0 v0 res) := by
 unfold f_ref06_Read at h
 refine Te Tryz.func19 rfl rfl ?_
 intro F ρ hρ
 refine Sr (We (Al ze24 rfl) rfl ?_)
 rintro _ _ _ - ⟨rfl, g21, rfl, rfl⟩
 refine We (Al ze50 rfl) rfl ?_
 rintro _ _ _ - ⟨rfl, g22, rfl, rfl⟩
 refine Ns (Pm v0 (hρ 0) rfl (Pu (.agg #[v0, (Iv 0), (Iv 0), (Sv ⟨#[]⟩), (Iv 0)]) (Bl (cl := [v0, (Iv 0), (Iv 0), (Sv ⟨#[]⟩), (Iv 0)]) ze57 fp57 (Parts.cons ((congrArg Value.cells (show ev _ _ = v0 from rfl)).trans h0.cells) Pz) rfl) rfl (We (EO.box (cs := #[v0, (Iv 0), (Iv 0), (Sv ⟨#[]⟩), (Iv 0)]) (congrArg Value.cells (show ev _ _ = (.agg #[v0, (Iv 0), (Iv 0), (Sv ⟨#[]⟩), (Iv 0)]) from rfl))) rfl ?_)))
 rintro _ _ _ - ⟨rfl, g23, rfl, rfl⟩
 refine Pa (pt g23 0) rfl rfl (Ns (Pm (pt g23 0) rfl rfl ?_))
 obtain ⟨⟨r24, r25, r26, r27, r28⟩, hr29, h⟩ := bnd h
 refine We (Cb co22 (f_ref06_Next_ok (⟨a0, (⟨(0 : Int), (0 : Int), (⟨#[]⟩ : ByteArray), (0 : Int)⟩ : T_ref02_State)⟩ : T_ref05_Cursor) _ _ _ h0 (r24, r25, r26, r27, r28) hr29) (args1 rfl)) rfl ?_
 rintro _ M30 _ hle31 ⟨_, ⟨vq32_2, cq32_2, rfl, rfl, hq32_2⟩, rfl⟩
 refine WL.a2 (We (Al ze24 rfl) rfl ?_)
 rintro _ _ _ - ⟨rfl, g33, rfl, rfl⟩
 refine We (Sg (v := (a24_ r24 vq32_2)) (vl := (l24 r24 vq32_2)) (arr' := (l24 r24 vq32_2)) rfl sz24 rfl rfl (onesOf (Oc rfl (Oc rfl (Oc (Ow hq32_2) Oz)))) rfl rfl rfl) rfl ?_
 rintro _ _ _ - ⟨rfl, rfl⟩
 refine Ns (Pm (pt g23 0) rfl rfl ?_)
 obtain ⟨⟨r34, r35, r36, r37⟩, hr38, h⟩ := bnd h
 refine WL.f1 ?_
 have h0 := h0.mono hle31
 refine We (Cb co43 (f_ref05_Cursor_End_ok (⟨a0, (⟨r25, r26, r27, r28⟩ : T_ref02_State)⟩ : T_ref05_Cursor) _ _ _ h0 (r34, r35, r36, r37) hr38) (args1 rfl)) rfl ?_
 rintro _ M39 _ hle40 ⟨_, ⟨rfl, rfl⟩, rfl⟩
 refine WL.a1 (Nt (Cs (Sr (Pm (pt g23 0) rfl rfl (Pu (pt g23 0) (Nk rfl) rfl (Pu (pt g23 1) (Fa fo57_1 rfl rfl) rfl (Pu (pt g23 2) (Fa fo50_1 rfl rfl) rfl (Pu (Iv r35) (Lb 0 pl31 rfl rfl rfl) rfl (Pu (Bv (decide (r35 ≠ 0))) (PO.neq rfl rfl) rfl (Nt (Cd (b := decide (r35 ≠ 0)) rfl (fun hb41 => ?_) (fun hb41 => ?_))))))))))))
 have h := ite_t hb41 h
 refine Cs (WC.draw [0, 0, 2, 6, 14, 1, 63] (.pure 0 (.pure 1 (.pure 2 (.pure 3 (.pure 4 (.alt 5 (.alt 6 .done .none) .none)))))) mixed (by kernel_rfl) (Tp (.agg #[(Iv 0), (Iv 0), Zs]) rfl (Bl (cl := [(Iv 0), (Iv 0), Zs]) ze24 fp24 Pz rfl) rfl (Tp (pt g23 0) rfl (Mv rfl) rfl (Tp (pt g23 0) rfl (Nk rfl) rfl (Tp (pt g23 1) rfl (Fa fo57_1 rfl rfl) rfl (Tp (.agg #[(Iv r34), (Iv r35), (Sv r36), (Iv r37)]) rfl (La (cs := [(Iv r34), (Iv r35), (Sv r36), (Iv r37)]) 0 ag50 sz50 rfl rfl rfl) rfl (WT.f4 (Ta rfl (Sg (v := (.agg #[(Iv 0), (Iv 0), Zs])) (vl := [(Iv 0), (Iv 0), Zs]) (arr' := [(Iv 0), (Iv 0), Zs]) rfl sz24 rfl rfl (onb rfl) rfl rfl rfl) rfl ?_ ?_))))))))
 rintro _ _ _ - ⟨rfl, rfl⟩
 refine ⟨(Ss rfl (La (cs := [(Iv r34), (Iv r35), (Sv r36), (Iv r37)]) 1 ag50 sz50 rfl rfl rfl) rfl (Ss rfl (Fa fo57_1 rfl rfl) rfl (Ss rfl (Nk rfl) rfl (Ss rfl (Mv rfl) rfl (Sl rfl))))), ?_⟩
 refine WT.f4 (Ta rfl (Sg (v := (.agg #[(Iv r34), (Iv r35), (Sv r36), (Iv r37)])) (vl := [(Iv r34), (Iv r35), (Sv r36), (Iv r37)]) (arr' := [(Iv r34), (Iv r35), (Sv r36), (Iv r37)]) rfl sz50 rfl rfl (onb rfl) rfl rfl rfl) rfl ?_ ?_)
 rintro _ _ _ - ⟨rfl, rfl⟩
 refine ⟨(Sl rfl), ?_⟩
 refine Ti (Tc (Cr (Tr (WQ.e0 (WQ.f3 (Dr (WQ.f3 (Dr (WQ.f3 (Dr (Qa ?_)))))))))))
 exact Qb (Rd h [[]] (fun _ hs => hs.drop.drop) (resultsLN rfl (RVs.cons (Rc (cs := [(Iv 0), (Iv 0), Zs]) 0 ag24 sz24 rfl rfl rfl) (RVs.cons (Rc (cs := [(Iv r34), (Iv r35), (Sv r36), (Iv r37)]) 1 ag50 sz50 rfl rfl rfl) RVs.nil))) (hle31.trans hle40) ⟨Zs, [], rfl, rfl, (OwnS.nil _ _)⟩)
 exact Tz
 exact Tz
 have h := ite_f hb41 h
 refine Ck (Tc (Cs (WC.draw [0, 0, 2, 6, 14, 1, 63] (.pure 0 (.pure 1 (.pure 2 (.pure 3 (.pure 4 (.alt 5 (.alt 6 .done .none) .none)))))) mixed (by kernel_rfl) (Tp (a24_ r24 vq32_2) rfl (La (cs := (l24 r24 vq32_2)) 1 ag24 sz24 rfl rfl rfl) rfl (Tp (pt g23 0) rfl (Mv rfl) rfl (Tp (pt g23 0) rfl (Nk rfl) rfl (Tp (pt g23 1) rfl (Fa fo57_1 rfl rfl) rfl (Tp (.agg #[(Iv r34), (Iv r35), (Sv r36), (Iv r37)]) rfl (La (cs := [(Iv r34), (Iv r35), (Sv r36), (Iv r37)]) 0 ag50 sz50 rfl rfl rfl) rfl (WT.f4 ?_)))))))))
 have hq32_2 := hq32_2.mono hle40
 refine Ta rfl (Sg (v := (a24_ r24 vq32_2)) (vl := (l24 r24 vq32_2)) (arr' := (l24 r24 vq32_2)) rfl sz24 rfl rfl (onesOf (Oc rfl (Oc rfl (Oc (Ow hq32_2) Oz)))) rfl rfl rfl) rfl ?_ ?_
 rintro _ _ _ - ⟨rfl, rfl⟩
 refine ⟨(Ss rfl (La (cs := [(Iv r34), (Iv r35), (Sv r36), (Iv r37)]) 1 ag50 sz50 rfl rfl rfl) rfl (Ss rfl (Fa fo57_1 rfl rfl) rfl (Ss rfl (Nk rfl) rfl (Ss rfl (Mv rfl) rfl (Sl rfl))))), ?_⟩
 refine WT.f4 (Ta rfl (Sg (v := (.agg #[(Iv r34), (Iv r35), (Sv r36), (Iv r37)])) (vl := [(Iv r34), (Iv r35), (Sv r36), (Iv r37)]) (arr' := [(Iv r34), (Iv r35), (Sv r36), (Iv r37)]) rfl sz50 rfl rfl (onb rfl) rfl rfl rfl) rfl ?_ ?_)
 rintro _ _ _ - ⟨rfl, rfl⟩
 refine ⟨(Sl rfl), ?_⟩
 exact Ti (Tc (Cr (Qb (Dr (Qb (Dr (Qb (Qa (Qb (Rd h [cq32_2] (fun _ hs => hs.drop.drop) (resultsLN rfl (RVs.cons (Rc (cs := (l24 r24 vq32_2)) 0 ag24 sz24 rfl rfl rfl) (RVs.cons (Rc (cs := [(Iv r34), (Iv r35), (Sv r36), (Iv r37)]) 1 ag50 sz50 rfl rfl rfl) RVs.nil))) (hle31.trans hle40) ⟨vq32_2, cq32_2, rfl, rfl, hq32_2⟩))))))))))
 exact Tz
 exact Tz

noncomputable def f_ref02_Ints_l0 (a0 : (List Int)) (a1 : (List Int)) (s_ : Int) : Option (Int ⊕ (Unit ⊕ Unit)) :=
  match s_ with
  | x24 =>
    (if (decide (x24 < (a0.length : Int))) = true then (grd (0 ≤ x24 ∧ x24 < a0.length) (grd (0 ≤ x24 ∧ x24 < a1.length) (if (decide ((rd a0 x24) ≠ (rd a1 x24))) = true then (some (Sum.inr (Sum.inr ()))) else (some (Sum.inl (IntKind.i64.wrap (x24 + (1 : Int)))))))) else (some (Sum.inr (Sum.inl ()))))
noncomputable def f_ref02_Ints (a0 : (List Int)) (a1 : (List Int)) : Option Bool :=
  (if (decide ((a0.length : Int) ≠ (a1.length : Int))) = true then (some false) else ((((iter (f_ref02_Ints_l0 a0 a1) (0 : Int)).bind (Sum.elim (fun _ => (some (Sum.inl ()))) (fun _ => (((some false)).bind fun r => some (Sum.inr r))))) : Option (Unit ⊕ Bool)).bind (Sum.elim (fun _ => (some true)) some)))
def f_ref02_Ints_post (a0 : (List Int)) (a1 : (List Int)) (v0 v1 : Value) : Bool → Value → IM → HL → Prop :=
  fun (r0 : Bool) (v : Value) (M' : IM) (H' : HL) => (.bool r0) = v ∧ H' = []
theorem f_ref02_Ints_ok (a0 : (List Int)) (a1 : (List Int)) (M : IM) (v0 v1 : Value) (h0 : RS (Kd.int .i64) M v0 a0) (h1 : RS (Kd.int .i64) M v1 a1) (res : Bool) (h : f_ref02_Ints a0 a1 = some res) :
    Tri Tryz.prog 67 #[v0, v1] M [] (f_ref02_Ints_post a0 a1 v0 v1 res) := by
 unfold f_ref02_Ints at h
 refine Te Tryz.func67 rfl rfl ?_
 intro F ρ hρ
 refine Sr (Pa (Bv false) rfl rfl (Nt (Cs (Sr (Pm v0 (hρ 0) rfl (Pu (Iv (a0.length : Int)) (PO.lenS Tryz.underlying65 rfl h0.len) rfl (Pm v1 (hρ 1) rfl (Pu (Iv (a1.length : Int)) (PO.lenS Tryz.underlying65 rfl h1.len) rfl (Pu (Bv (decide ((a0.length : Int) ≠ (a1.length : Int)))) (PO.neq rfl rfl) rfl (Nt (Cd (b := decide ((a0.length : Int) ≠ (a1.length : Int))) rfl (fun hb21 => ?_) (fun hb21 => ?_))))))))))))
 have h := ite_t hb21 h
 exact Sr (Pa (Bv false) rfl rfl (Nt (Cr (Tr (Rf h [] rfl (Rs rfl rfl) lr ⟨rfl, rfl⟩)))))
 have h := ite_f hb21 h
 refine Ck (Tc ?_)
 obtain ⟨j22, hj22, h⟩ := bnd h
 refine WC.joinE (fun (_ : Unit) ρ' M' H' => M.le M' ∧ F = H') j22 ?_ ?_
 have h322 := h
 have h := hj22
 refine Sr (Pa (Iv 0) rfl rfl (Nt (Bk ?_)))
 obtain ⟨e23, he23, hK23⟩ := bnd h
 clear h
 refine WC.loop he23 (fun (x24 : Int) ρ' M' H' => M.le M' ∧ F = H' ∧ ρ' 0 = v0 ∧ ρ' 1 = v1 ∧ ρ' 5 = (Iv x24)) ?_ ?_
 exact ⟨lr, rfl, (hρ 0), (hρ 1), rfl⟩
 rintro x24 o23 ρ23 M23 H23 h ⟨hle23, rfl, hs23_0, hs23_1, hs23_5⟩
 unfold f_ref02_Ints_l0 at h
 refine Cs (Sr (Pm (Iv x24) hs23_5 rfl (Pm v0 hs23_0 rfl ?_)))
 have h0 := h0.mono hle23
 refine Pu (Iv (a0.length : Int)) (PO.lenS Tryz.underlying65 rfl h0.len) rfl (Pu (Bv (decide (x24 < (a0.length : Int)))) (PO.lss rfl rfl) rfl (Nt (Cd (b := decide (x24 < (a0.length : Int))) rfl (fun hb25 => ?_) (fun hb25 => ?_))))
 have h := ite_t hb25 h
 refine Ck (Tc (Cs (Bk (Cs (WC.draw [0, 0, 3, 7, 0, 0, 48, 112, 255] (.pure 0 (.pure 1 (.pure 2 (.pure 3 (.pure 4 (.pure 5 (.pure 6 (.pure 7 (.pure 8 .done))))))))) mixed (by kernel_rfl) (Tp v0 rfl (Mv hs23_0) rfl (Tp (Iv x24) rfl (Mv hs23_5) rfl ?_)))))))
 obtain ⟨hg26, h⟩ := grd_i h
 obtain ⟨p27, cs28, hat29, hrc30, hhas31⟩ := h0.at hg26.1 hg26.2 (by decide)
 obtain rfl := hrc30
 refine Tp (.pointer (some p27)) rfl (PO.indexAddr (n := a0.length) Tryz.underlying65 sz3 rfl rfl hg26.1 hg26.2 hat29) rfl (Tp (Iv (rd a0 x24)) rfl (PO.loadM pl3 rfl (IM.has0 hhas31)) rfl (Tp v1 rfl (Mv hs23_1) rfl (Tp (Iv x24) rfl (Mv hs23_5) rfl ?_)))
 obtain ⟨hg33, h⟩ := grd_i h
 have h1 := h1.mono hle23
 obtain ⟨p34, cs35, hat36, hrc37, hhas38⟩ := h1.at hg33.1 hg33.2 (by decide)
 obtain rfl := hrc37
 refine Tp (.pointer (some p34)) rfl (PO.indexAddr (n := a1.length) Tryz.underlying65 sz3 rfl rfl hg33.1 hg33.2 hat36) rfl (Tp (Iv (rd a1 x24)) rfl (PO.loadM pl3 rfl (IM.has0 hhas38)) rfl (Tp (Bv (decide ((rd a0 x24) ≠ (rd a1 x24)))) rfl (PO.neq rfl rfl) rfl (Ti (Tc (Cd (b := decide ((rd a0 x24) ≠ (rd a1 x24))) rfl (fun hb40 => ?_) (fun hb40 => ?_))))))
 have h := ite_t hb40 h
 refine Sr (Pa (Bv false) rfl rfl (Nt (Cr (Br (Tr (WQ.leaveR (Sum.inr ()) (oi h).symm (fun heq23 => ?_)))))))
 subst heq23
 have h := (elimR hK23)
 refine Br (Tr ?_)
 have h := KK.early h h322
 exact Rf h [] rfl (Rs rfl rfl) hle23 ⟨rfl, rfl⟩
 have h := ite_f hb40 h
 exact Ck (Bn (Tc (Cg (Pm (Iv x24) hs23_5 rfl (Pu (Iv (IntKind.i64.wrap (x24 + 1))) (PO.add rfl rfl) rfl (Pa (Iv (IntKind.i64.wrap (x24 + 1))) rfl rfl (Wz (WQ.again (IntKind.i64.wrap (x24 + 1)) (oi h).symm ⟨hle23, rfl, hs23_0, hs23_1, rfl⟩))))))))
 have h := ite_f hb25 h
 refine WC.exit (WQ.thenE (WQ.leaveE (Sum.inl ()) (oi h).symm (fun heq23 => ?_)))
 subst heq23
 have h := elimL hK23
 exact WQ.blockH (WQ.thenFE h ⟨hle23, rfl⟩)
 rintro _ ρ22 M22 H22 rfl ⟨hle22, rfl⟩
 have h := (Sum.elim_inl _ _ _).symm.trans h
 exact Sr (Pa (Bv true) rfl rfl (Nt (Cr (Rf h [] rfl (Rs rfl rfl) hle22 ⟨rfl, rfl⟩))))

noncomputable def f_ref05_Same (a0 : T_api_Record) (a1 : T_api_Record) : Option Bool :=
  (((if (decide (a0.Kind ≠ a1.Kind)) = true then (some true) else (if (decide (a0.Broker ≠ a1.Broker)) = true then (some true) else (if (decide (a0.Epoch ≠ a1.Epoch)) = true then (some true) else (if (decide (a0.Topic ≠ a1.Topic)) = true then (some true) else (if (decide (a0.Part ≠ a1.Part)) = true then (some true) else (some (decide (a0.Leader ≠ a1.Leader)))))))) : Option Bool).bind fun (x23 : Bool) => (if x23 = true then (some false) else (((if (decide (a0.Client ≠ a1.Client)) = true then (some true) else (if (decide (a0.Serial ≠ a1.Serial)) = true then (some true) else (if (decide (a0.Code ≠ a1.Code)) = true then (some true) else (some (!(a0.Flag == a1.Flag)))))) : Option Bool).bind fun (x31 : Bool) => (if x31 = true then (some false) else (((if (!decide (a0.Name = a1.Name)) = true then (some true) else (if (!decide (a0.Key = a1.Key)) = true then (some true) else (if (!decide (a0.Value = a1.Value)) = true then (some true) else (some (!decide (a0.Rack = a1.Rack)))))) : Option Bool).bind fun (x37 : Bool) => (if x37 = true then (some false) else ((((f_ref02_Ints a0.Ids a1.Ids).bind fun (r45 : Bool) => (if r45 = true then ((f_ref02_Ints a0.Isr a1.Isr).bind fun (r51 : Bool) => (some r51)) else (some false))) : Option Bool).bind fun (x43 : Bool) => (((if x43 = true then ((f_ref02_Ints a0.Add a1.Add).bind fun (r59 : Bool) => (if r59 = true then ((f_ref02_Ints a0.Drop a1.Drop).bind fun (r65 : Bool) => (some r65)) else (some false))) else (some false)) : Option Bool).bind fun (x56 : Bool) => (some x56)))))))))
def f_ref05_Same_post (a0 : T_api_Record) (a1 : T_api_Record) (v0_14 v0_15 v0_16 v0_17 v1_14 v1_15 v1_16 v1_17 : Value) : Bool → Value → IM → HL → Prop :=
  fun (r0 : Bool) (v : Value) (M' : IM) (H' : HL) => (.bool r0) = v ∧ H' = []
theorem f_ref05_Same_ok (a0 : T_api_Record) (a1 : T_api_Record) (M : IM) (v0_14 v0_15 v0_16 v0_17 v1_14 v1_15 v1_16 v1_17 : Value) (h0_14 : RS (Kd.int .i64) M v0_14 a0.Ids) (h0_15 : RS (Kd.int .i64) M v0_15 a0.Isr) (h0_16 : RS (Kd.int .i64) M v0_16 a0.Add) (h0_17 : RS (Kd.int .i64) M v0_17 a0.Drop) (h1_14 : RS (Kd.int .i64) M v1_14 a1.Ids) (h1_15 : RS (Kd.int .i64) M v1_15 a1.Isr) (h1_16 : RS (Kd.int .i64) M v1_16 a1.Add) (h1_17 : RS (Kd.int .i64) M v1_17 a1.Drop) (res : Bool) (h : f_ref05_Same a0 a1 = some res) :
    Tri Tryz.prog 37 #[(a67_ a0 v0_14 v0_15 v0_16 v0_17), (a67_ a1 v1_14 v1_15 v1_16 v1_17)] M [] (f_ref05_Same_post a0 a1 v0_14 v0_15 v0_16 v0_17 v1_14 v1_15 v1_16 v1_17 res) := by
 unfold f_ref05_Same at h
 refine Te Tryz.func37 rfl rfl ?_
 intro F ρ hρ
 refine Sr (We (EO.box (cs := (l67 a0 v0_14 v0_15 v0_16 v0_17).toArray) (congrArg Value.cells (asE (a67_ a0 v0_14 v0_15 v0_16 v0_17) (hρ 0)))) rfl ?_)
 rintro _ _ _ - ⟨rfl, g21, rfl, rfl⟩
 refine We (EO.box (cs := (l67 a1 v1_14 v1_15 v1_16 v1_17).toArray) (congrArg Value.cells (asE (a67_ a1 v1_14 v1_15 v1_16 v1_17) (hρ 1)))) rfl ?_
 rintro _ _ _ - ⟨rfl, g22, rfl, rfl⟩
 refine Pa (Bv false) rfl rfl (Nt (Cs ?_))
 obtain ⟨x23, hj24, h⟩ := bnd h
 refine Jf (fun (x23 : Bool) ρ' M' H' => M.le M' ∧ [(g22, .cells (l67 a1 v1_14 v1_15 v1_16 v1_17).toArray 67 (0, 0))] :: [(g21, .cells (l67 a0 v0_14 v0_15 v0_16 v0_17).toArray 67 (0, 0))] :: F = H' ∧ ρ' 2 = (pt g21 0) ∧ ρ' 3 = (pt g22 0) ∧ ρ' 45 = (Bv x23)) x23 ?_ ?_
 have h324 := h
 have h := hj24
 refine Cg (Pu (pt g21 0) (Fa fo67_0 rfl rfl) rfl (Pu (Iv a0.Kind) (Lb 1 pl3 rfl rfl rfl) rfl (Pu (pt g22 0) (Fa fo67_0 rfl rfl) rfl (Pu (Iv a1.Kind) (Lb 0 pl3 rfl rfl rfl) rfl (Pu (Bv (decide (a0.Kind ≠ a1.Kind))) (PO.neq rfl rfl) rfl (Pm (Bv (decide (a0.Kind ≠ a1.Kind))) rfl rfl ?_))))))
 rcases Bt (decide (a0.Kind ≠ a1.Kind)) with hb25 | hb25
 have h := ite_t hb25 h
 iterate 5 refine Of 11 rfl rfl hb25 rfl ?_
 refine Pu (Bv true) (Pt rfl hb25 rfl) rfl (Pm (Bv true) rfl rfl ?_)
 iterate 5 refine Of 18 rfl rfl rfl rfl ?_
 refine Pu (Bv true) (Pt rfl rfl rfl) rfl (Pm (Bv true) rfl rfl ?_)
 iterate 5 refine Of 25 rfl rfl rfl rfl ?_
 refine Pu (Bv true) (Pt rfl rfl rfl) rfl (Pm (Bv true) rfl rfl ?_)
 iterate 5 refine Of 32 rfl rfl rfl rfl ?_
 refine Pu (Bv true) (Pt rfl rfl rfl) rfl (Pm (Bv true) rfl rfl ?_)
 iterate 5 refine Of 39 rfl rfl rfl rfl ?_
 refine Pu (Bv true) (Pt rfl rfl rfl) rfl (Wz ?_)
 obtain rfl := oi h
 exact Tj ⟨lr, rfl, rfl, rfl, rfl⟩
 have h := ite_f hb25 h
 refine On 11 rfl rfl hb25 (Pu (pt g21 1) (Fa fo67_1 rfl rfl) rfl (On 11 rfl rfl hb25 (Pu (Iv a0.Broker) (Lb 1 pl3 rfl rfl rfl) rfl (On 11 rfl rfl hb25 (Pu (pt g22 1) (Fa fo67_1 rfl rfl) rfl (On 11 rfl rfl hb25 (Pu (Iv a1.Broker) (Lb 0 pl3 rfl rfl rfl) rfl (On 11 rfl rfl hb25 (Pu (Bv (decide (a0.Broker ≠ a1.Broker))) (PO.neq rfl rfl) rfl (Pu (Bv (decide (a0.Broker ≠ a1.Broker))) (Pf rfl hb25 rfl) rfl (Pm (Bv (decide (a0.Broker ≠ a1.Broker))) rfl rfl ?_)))))))))))
 rcases Bt (decide (a0.Broker ≠ a1.Broker)) with hb26 | hb26
 have h := ite_t hb26 h
 iterate 5 refine Of 18 rfl rfl hb26 rfl ?_
 refine Pu (Bv true) (Pt rfl hb26 rfl) rfl (Pm (Bv true) rfl rfl ?_)
 iterate 5 refine Of 25 rfl rfl rfl rfl ?_
 refine Pu (Bv true) (Pt rfl rfl rfl) rfl (Pm (Bv true) rfl rfl ?_)
 iterate 5 refine Of 32 rfl rfl rfl rfl ?_
 refine Pu (Bv true) (Pt rfl rfl rfl) rfl (Pm (Bv true) rfl rfl ?_)
 iterate 5 refine Of 39 rfl rfl rfl rfl ?_
 refine Pu (Bv true) (Pt rfl rfl rfl) rfl (Wz ?_)
 obtain rfl := oi h
 exact Tj ⟨lr, rfl, rfl, rfl, rfl⟩
 have h := ite_f hb26 h
 refine On 18 rfl rfl hb26 (Pu (pt g21 2) (Fa fo67_2 rfl rfl) rfl (On 18 rfl rfl hb26 (Pu (Iv a0.Epoch) (Lb 1 pl3 rfl rfl rfl) rfl (On 18 rfl rfl hb26 (Pu (pt g22 2) (Fa fo67_2 rfl rfl) rfl (On 18 rfl rfl hb26 (Pu (Iv a1.Epoch) (Lb 0 pl3 rfl rfl rfl) rfl (On 18 rfl rfl hb26 (Pu (Bv (decide (a0.Epoch ≠ a1.Epoch))) (PO.neq rfl rfl) rfl (Pu (Bv (decide (a0.Epoch ≠ a1.Epoch))) (Pf rfl hb26 rfl) rfl (Pm (Bv (decide (a0.Epoch ≠ a1.Epoch))) rfl rfl ?_)))))))))))
 rcases Bt (decide (a0.Epoch ≠ a1.Epoch)) with hb27 | hb27
 have h := ite_t hb27 h
 iterate 5 refine Of 25 rfl rfl hb27 rfl ?_
 refine Pu (Bv true) (Pt rfl hb27 rfl) rfl (Pm (Bv true) rfl rfl ?_)
 iterate 5 refine Of 32 rfl rfl rfl rfl ?_
 refine Pu (Bv true) (Pt rfl rfl rfl) rfl (Pm (Bv true) rfl rfl ?_)
 iterate 5 refine Of 39 rfl rfl rfl rfl ?_
 refine Pu (Bv true) (Pt rfl rfl rfl) rfl (Wz ?_)
 obtain rfl := oi h
 exact Tj ⟨lr, rfl, rfl, rfl, rfl⟩
 have h := ite_f hb27 h
 refine On 25 rfl rfl hb27 (Pu (pt g21 3) (Fa fo67_3 rfl rfl) rfl (On 25 rfl rfl hb27 (Pu (Iv a0.Topic) (Lb 1 pl3 rfl rfl rfl) rfl (On 25 rfl rfl hb27 (Pu (pt g22 3) (Fa fo67_3 rfl rfl) rfl (On 25 rfl rfl hb27 (Pu (Iv a1.Topic) (Lb 0 pl3 rfl rfl rfl) rfl (On 25 rfl rfl hb27 (Pu (Bv (decide (a0.Topic ≠ a1.Topic))) (PO.neq rfl rfl) rfl (Pu (Bv (decide (a0.Topic ≠ a1.Topic))) (Pf rfl hb27 rfl) rfl (Pm (Bv (decide (a0.Topic ≠ a1.Topic))) rfl rfl ?_)))))))))))
 rcases Bt (decide (a0.Topic ≠ a1.Topic)) with hb28 | hb28
 have h := ite_t hb28 h
 iterate 5 refine Of 32 rfl rfl hb28 rfl ?_
 refine Pu (Bv true) (Pt rfl hb28 rfl) rfl (Pm (Bv true) rfl rfl ?_)
 iterate 5 refine Of 39 rfl rfl rfl rfl ?_
 refine Pu (Bv true) (Pt rfl rfl rfl) rfl (Wz ?_)
 obtain rfl := oi h
 exact Tj ⟨lr, rfl, rfl, rfl, rfl⟩
 have h := ite_f hb28 h
 refine On 32 rfl rfl hb28 (Pu (pt g21 4) (Fa fo67_4 rfl rfl) rfl (On 32 rfl rfl hb28 (Pu (Iv a0.Part) (Lb 1 pl3 rfl rfl rfl) rfl (On 32 rfl rfl hb28 (Pu (pt g22 4) (Fa fo67_4 rfl rfl) rfl (On 32 rfl rfl hb28 (Pu (Iv a1.Part) (Lb 0 pl3 rfl rfl rfl) rfl (On 32 rfl rfl hb28 (Pu (Bv (decide (a0.Part ≠ a1.Part))) (PO.neq rfl rfl) rfl (Pu (Bv (decide (a0.Part ≠ a1.Part))) (Pf rfl hb28 rfl) rfl (Pm (Bv (decide (a0.Part ≠ a1.Part))) rfl rfl ?_)))))))))))
 rcases Bt (decide (a0.Part ≠ a1.Part)) with hb29 | hb29
 have h := ite_t hb29 h
 iterate 5 refine Of 39 rfl rfl hb29 rfl ?_
 refine Pu (Bv true) (Pt rfl hb29 rfl) rfl (Wz ?_)
 obtain rfl := oi h
 exact Tj ⟨lr, rfl, rfl, rfl, rfl⟩
 have h := ite_f hb29 h
 refine On 39 rfl rfl hb29 (Pu (pt g21 5) (Fa fo67_5 rfl rfl) rfl (On 39 rfl rfl hb29 (Pu (Iv a0.Leader) (Lb 1 pl3 rfl rfl rfl) rfl (On 39 rfl rfl hb29 (Pu (pt g22 5) (Fa fo67_5 rfl rfl) rfl (On 39 rfl rfl hb29 (Pu (Iv a1.Leader) (Lb 0 pl3 rfl rfl rfl) rfl (On 39 rfl rfl hb29 (Pu (Bv (decide (a0.Leader ≠ a1.Leader))) (PO.neq rfl rfl) rfl (Pu (Bv (decide (a0.Leader ≠ a1.Leader))) (Pf rfl hb29 rfl) rfl (Wz ?_)))))))))))
 obtain rfl := oi h
 exact Tj ⟨lr, rfl, rfl, rfl, rfl⟩
 rintro ρ24 M24 H24 ⟨hle24, rfl, hs24_2, hs24_3, hs24_45⟩
 refine Cd (b := x23) hs24_45 (fun hb30 => ?_) (fun hb30 => ?_)
 have h := ite_t hb30 h
 exact Sr (Pa (Bv false) rfl rfl (Nt (Cr (Tr (Dr (Dr (Rf h [] rfl (Rs rfl rfl) hle24 ⟨rfl, rfl⟩)))))))
 have h := ite_f hb30 h
 refine Ck (Tc (Cs ?_))
 obtain ⟨x31, hj32, h⟩ := bnd h
 refine Jf (fun (x31 : Bool) ρ' M' H' => M24.le M' ∧ [(g22, .cells (l67 a1 v1_14 v1_15 v1_16 v1_17).toArray 67 (0, 0))] :: [(g21, .cells (l67 a0 v0_14 v0_15 v0_16 v0_17).toArray 67 (0, 0))] :: F = H' ∧ ρ' 2 = (pt g21 0) ∧ ρ' 3 = (pt g22 0) ∧ ρ' 71 = (Bv x31)) x31 ?_ ?_
 have h332 := h
 have h := hj32
 refine Cg (Pu (pt g21 6) (Fa fo67_6 hs24_2 rfl) rfl (Pu (Iv a0.Client) (Lb 1 pl3 rfl rfl rfl) rfl (Pu (pt g22 6) (Fa fo67_6 hs24_3 rfl) rfl (Pu (Iv a1.Client) (Lb 0 pl3 rfl rfl rfl) rfl (Pu (Bv (decide (a0.Client ≠ a1.Client))) (PO.neq rfl rfl) rfl (Pm (Bv (decide (a0.Client ≠ a1.Client))) rfl rfl ?_))))))
 rcases Bt (decide (a0.Client ≠ a1.Client)) with hb33 | hb33
 have h := ite_t hb33 h
 iterate 5 refine Of 51 rfl rfl hb33 rfl ?_
 refine Pu (Bv true) (Pt rfl hb33 rfl) rfl (Pm (Bv true) rfl rfl ?_)
 iterate 5 refine Of 58 rfl rfl rfl rfl ?_
 refine Pu (Bv true) (Pt rfl rfl rfl) rfl (Pm (Bv true) rfl rfl ?_)
 iterate 5 refine Of 65 rfl rfl rfl rfl ?_
 refine Pu (Bv true) (Pt rfl rfl rfl) rfl (Wz ?_)
 obtain rfl := oi h
 exact Tj ⟨lr, rfl, hs24_2, hs24_3, rfl⟩
 have h := ite_f hb33 h
 refine On 51 rfl rfl hb33 (Pu (pt g21 7) (Fa fo67_7 hs24_2 rfl) rfl (On 51 rfl rfl hb33 (Pu (Iv a0.Serial) (Lb 1 pl3 rfl rfl rfl) rfl (On 51 rfl rfl hb33 (Pu (pt g22 7) (Fa fo67_7 hs24_3 rfl) rfl (On 51 rfl rfl hb33 (Pu (Iv a1.Serial) (Lb 0 pl3 rfl rfl rfl) rfl (On 51 rfl rfl hb33 (Pu (Bv (decide (a0.Serial ≠ a1.Serial))) (PO.neq rfl rfl) rfl (Pu (Bv (decide (a0.Serial ≠ a1.Serial))) (Pf rfl hb33 rfl) rfl (Pm (Bv (decide (a0.Serial ≠ a1.Serial))) rfl rfl ?_)))))))))))
 rcases Bt (decide (a0.Serial ≠ a1.Serial)) with hb34 | hb34
 have h := ite_t hb34 h
 iterate 5 refine Of 58 rfl rfl hb34 rfl ?_
 refine Pu (Bv true) (Pt rfl hb34 rfl) rfl (Pm (Bv true) rfl rfl ?_)
 iterate 5 refine Of 65 rfl rfl rfl rfl ?_
 refine Pu (Bv true) (Pt rfl rfl rfl) rfl (Wz ?_)
 obtain rfl := oi h
 exact Tj ⟨lr, rfl, hs24_2, hs24_3, rfl⟩
 have h := ite_f hb34 h
 refine On 58 rfl rfl hb34 (Pu (pt g21 8) (Fa fo67_8 hs24_2 rfl) rfl (On 58 rfl rfl hb34 (Pu (Iv a0.Code) (Lb 1 pl3 rfl rfl rfl) rfl (On 58 rfl rfl hb34 (Pu (pt g22 8) (Fa fo67_8 hs24_3 rfl) rfl (On 58 rfl rfl hb34 (Pu (Iv a1.Code) (Lb 0 pl3 rfl rfl rfl) rfl (On 58 rfl rfl hb34 (Pu (Bv (decide (a0.Code ≠ a1.Code))) (PO.neq rfl rfl) rfl (Pu (Bv (decide (a0.Code ≠ a1.Code))) (Pf rfl hb34 rfl) rfl (Pm (Bv (decide (a0.Code ≠ a1.Code))) rfl rfl ?_)))))))))))
 rcases Bt (decide (a0.Code ≠ a1.Code)) with hb35 | hb35
 have h := ite_t hb35 h
 iterate 5 refine Of 65 rfl rfl hb35 rfl ?_
 refine Pu (Bv true) (Pt rfl hb35 rfl) rfl (Wz ?_)
 obtain rfl := oi h
 exact Tj ⟨lr, rfl, hs24_2, hs24_3, rfl⟩
 have h := ite_f hb35 h
 refine On 65 rfl rfl hb35 (Pu (pt g21 9) (Fa fo67_9 hs24_2 rfl) rfl (On 65 rfl rfl hb35 (Pu (Bv a0.Flag) (Lb 1 pl4 rfl rfl rfl) rfl (On 65 rfl rfl hb35 (Pu (pt g22 9) (Fa fo67_9 hs24_3 rfl) rfl (On 65 rfl rfl hb35 (Pu (Bv a1.Flag) (Lb 0 pl4 rfl rfl rfl) rfl (On 65 rfl rfl hb35 (Pu (Bv (!(a0.Flag == a1.Flag))) (PO.bneq Tryz.underlying4 rfl rfl) rfl (Pu (Bv (!(a0.Flag == a1.Flag))) (Pf rfl hb35 rfl) rfl (Wz ?_)))))))))))
 obtain rfl := oi h
 exact Tj ⟨lr, rfl, hs24_2, hs24_3, rfl⟩
 rintro ρ32 M32 H32 ⟨hle32, rfl, hs32_2, hs32_3, hs32_71⟩
 refine Cd (b := x31) hs32_71 (fun hb36 => ?_) (fun hb36 => ?_)
 have h := ite_t hb36 h
 exact Sr (Pa (Bv false) rfl rfl (Nt (Cr (Tr (Dr (Dr (Rf h [] rfl (Rs rfl rfl) (hle24.trans hle32) ⟨rfl, rfl⟩)))))))
 have h := ite_f hb36 h
 refine Ck (Tc (Cs ?_))
 obtain ⟨x37, hj38, h⟩ := bnd h
 refine Jf (fun (x37 : Bool) ρ' M' H' => M32.le M' ∧ [(g22, .cells (l67 a1 v1_14 v1_15 v1_16 v1_17).toArray 67 (0, 0))] :: [(g21, .cells (l67 a0 v0_14 v0_15 v0_16 v0_17).toArray 67 (0, 0))] :: F = H' ∧ ρ' 2 = (pt g21 0) ∧ ρ' 3 = (pt g22 0) ∧ ρ' 97 = (Bv x37)) x37 ?_ ?_
 have h338 := h
 have h := hj38
 refine Cg (Pu (pt g21 10) (Fa fo67_10 hs32_2 rfl) rfl (Pu (Sv a0.Name) (Lb 1 pl9 rfl rfl rfl) rfl (Pu (pt g22 10) (Fa fo67_10 hs32_3 rfl) rfl (Pu (Sv a1.Name) (Lb 0 pl9 rfl rfl rfl) rfl (Pu (Bv (!decide (a0.Name = a1.Name))) (PO.sneq rfl rfl) rfl (Pm (Bv (!decide (a0.Name = a1.Name))) rfl rfl ?_))))))
 rcases Bt (!decide (a0.Name = a1.Name)) with hb39 | hb39
 have h := ite_t hb39 h
 iterate 5 refine Of 77 rfl rfl hb39 rfl ?_
 refine Pu (Bv true) (Pt rfl hb39 rfl) rfl (Pm (Bv true) rfl rfl ?_)
 iterate 5 refine Of 84 rfl rfl rfl rfl ?_
 refine Pu (Bv true) (Pt rfl rfl rfl) rfl (Pm (Bv true) rfl rfl ?_)
 iterate 5 refine Of 91 rfl rfl rfl rfl ?_
 refine Pu (Bv true) (Pt rfl rfl rfl) rfl (Wz ?_)
 obtain rfl := oi h
 exact Tj ⟨lr, rfl, hs32_2, hs32_3, rfl⟩
 have h := ite_f hb39 h
 refine On 77 rfl rfl hb39 (Pu (pt g21 11) (Fa fo67_11 hs32_2 rfl) rfl (On 77 rfl rfl hb39 (Pu (Sv a0.Key) (Lb 1 pl9 rfl rfl rfl) rfl (On 77 rfl rfl hb39 (Pu (pt g22 11) (Fa fo67_11 hs32_3 rfl) rfl (On 77 rfl rfl hb39 (Pu (Sv a1.Key) (Lb 0 pl9 rfl rfl rfl) rfl (On 77 rfl rfl hb39 (Pu (Bv (!decide (a0.Key = a1.Key))) (PO.sneq rfl rfl) rfl (Pu (Bv (!decide (a0.Key = a1.Key))) (Pf rfl hb39 rfl) rfl (Pm (Bv (!decide (a0.Key = a1.Key))) rfl rfl ?_)))))))))))
 rcases Bt (!decide (a0.Key = a1.Key)) with hb40 | hb40
 have h := ite_t hb40 h
 iterate 5 refine Of 84 rfl rfl hb40 rfl ?_
 refine Pu (Bv true) (Pt rfl hb40 rfl) rfl (Pm (Bv true) rfl rfl ?_)
 iterate 5 refine Of 91 rfl rfl rfl rfl ?_
 refine Pu (Bv true) (Pt rfl rfl rfl) rfl (Wz ?_)
 obtain rfl := oi h
 exact Tj ⟨lr, rfl, hs32_2, hs32_3, rfl⟩
 have h := ite_f hb40 h
 refine On 84 rfl rfl hb40 (Pu (pt g21 12) (Fa fo67_12 hs32_2 rfl) rfl (On 84 rfl rfl hb40 (Pu (Sv a0.Value) (Lb 1 pl9 rfl rfl rfl) rfl (On 84 rfl rfl hb40 (Pu (pt g22 12) (Fa fo67_12 hs32_3 rfl) rfl (On 84 rfl rfl hb40 (Pu (Sv a1.Value) (Lb 0 pl9 rfl rfl rfl) rfl (On 84 rfl rfl hb40 (Pu (Bv (!decide (a0.Value = a1.Value))) (PO.sneq rfl rfl) rfl (Pu (Bv (!decide (a0.Value = a1.Value))) (Pf rfl hb40 rfl) rfl (Pm (Bv (!decide (a0.Value = a1.Value))) rfl rfl ?_)))))))))))
 rcases Bt (!decide (a0.Value = a1.Value)) with hb41 | hb41
 have h := ite_t hb41 h
 iterate 5 refine Of 91 rfl rfl hb41 rfl ?_
 refine Pu (Bv true) (Pt rfl hb41 rfl) rfl (Wz ?_)
 obtain rfl := oi h
 exact Tj ⟨lr, rfl, hs32_2, hs32_3, rfl⟩
 have h := ite_f hb41 h
 refine On 91 rfl rfl hb41 (Pu (pt g21 13) (Fa fo67_13 hs32_2 rfl) rfl (On 91 rfl rfl hb41 (Pu (Sv a0.Rack) (Lb 1 pl9 rfl rfl rfl) rfl (On 91 rfl rfl hb41 (Pu (pt g22 13) (Fa fo67_13 hs32_3 rfl) rfl (On 91 rfl rfl hb41 (Pu (Sv a1.Rack) (Lb 0 pl9 rfl rfl rfl) rfl (On 91 rfl rfl hb41 (Pu (Bv (!decide (a0.Rack = a1.Rack))) (PO.sneq rfl rfl) rfl (Pu (Bv (!decide (a0.Rack = a1.Rack))) (Pf rfl hb41 rfl) rfl (Wz ?_)))))))))))
 obtain rfl := oi h
 exact Tj ⟨lr, rfl, hs32_2, hs32_3, rfl⟩
 rintro ρ38 M38 H38 ⟨hle38, rfl, hs38_2, hs38_3, hs38_97⟩
 refine Cd (b := x37) hs38_97 (fun hb42 => ?_) (fun hb42 => ?_)
 have h := ite_t hb42 h
 exact Sr (Pa (Bv false) rfl rfl (Nt (Cr (Tr (Dr (Dr (Rf h [] rfl (Rs rfl rfl) ((hle24.trans hle32).trans hle38) ⟨rfl, rfl⟩)))))))
 have h := ite_f hb42 h
 refine Ck (Tc ?_)
 obtain ⟨x43, hj44, h⟩ := bnd h
 refine Jf (fun (x43 : Bool) ρ' M' H' => M38.le M' ∧ [(g22, .cells (l67 a1 v1_14 v1_15 v1_16 v1_17).toArray 67 (0, 0))] :: [(g21, .cells (l67 a0 v0_14 v0_15 v0_16 v0_17).toArray 67 (0, 0))] :: F = H' ∧ ρ' 2 = (pt g21 0) ∧ ρ' 3 = (pt g22 0) ∧ ρ' 5 = (Bv x43)) x43 ?_ ?_
 have h344 := h
 have h := hj44
 refine Cg (Pu (pt g21 14) (Fa fo67_14 hs38_2 rfl) rfl (Pu v0_14 (Lb 1 pl65 rfl rfl rfl) rfl (Pu (pt g22 14) (Fa fo67_14 hs38_3 rfl) rfl (Pu v1_14 (Lb 0 pl65 rfl rfl rfl) rfl ?_))))
 obtain ⟨r45, hr46, h⟩ := bnd h
 have h0_14 := h0_14.mono ((hle24.trans hle32).trans hle38)
 have h1_14 := h1_14.mono ((hle24.trans hle32).trans hle38)
 refine We (Ca co67 (f_ref02_Ints_ok a0.Ids a1.Ids _ _ _ h0_14 h1_14 r45 hr46) (args2 rfl rfl)) rfl ?_
 rintro _ M47 _ hle48 ⟨_, ⟨rfl, rfl⟩, rfl⟩
 refine WL.a0 (Pm (Bv r45) rfl rfl ?_)
 rcases Bt (r45) with hb50 | hb50
 have h := ite_t hb50 h
 refine On 103 rfl rfl hb50 (Pu (pt g21 15) (Fa fo67_15 hs38_2 rfl) rfl (On 103 rfl rfl hb50 (Pu v0_15 (Lb 1 pl65 rfl rfl rfl) rfl (On 103 rfl rfl hb50 (Pu (pt g22 15) (Fa fo67_15 hs38_3 rfl) rfl (On 103 rfl rfl hb50 (Pu v1_15 (Lb 0 pl65 rfl rfl rfl) rfl (On 103 rfl rfl hb50 ?_))))))))
 obtain ⟨r51, hr52, h⟩ := bnd h
 have h0_15 := h0_15.mono (((hle24.trans hle32).trans hle38).trans hle48)
 have h1_15 := h1_15.mono (((hle24.trans hle32).trans hle38).trans hle48)
 refine We (Ca co67 (f_ref02_Ints_ok a0.Isr a1.Isr _ _ _ h0_15 h1_15 r51 hr52) (args2 rfl rfl)) rfl ?_
 rintro _ M53 _ hle54 ⟨_, ⟨rfl, rfl⟩, rfl⟩
 refine WL.a0 (Pu (Bv r51) (Pt rfl hb50 rfl) rfl (Pa (Bv r51) rfl rfl (Wz ?_)))
 obtain rfl := oi h
 exact Tj ⟨(hle48.trans hle54), rfl, hs38_2, hs38_3, rfl⟩
 have h := ite_f hb50 h
 iterate 5 refine Of 103 rfl rfl hb50 rfl ?_
 refine Pu (Bv false) (Pf rfl hb50 rfl) rfl (Pa (Bv false) rfl rfl (Wz ?_))
 obtain rfl := oi h
 exact Tj ⟨hle48, rfl, hs38_2, hs38_3, rfl⟩
 rintro ρ44 M44 H44 ⟨hle44, rfl, hs44_2, hs44_3, hs44_5⟩
 obtain ⟨x56, hj57, h⟩ := bnd h
 refine Jf (fun (x56 : Bool) ρ' M' H' => M44.le M' ∧ [(g22, .cells (l67 a1 v1_14 v1_15 v1_16 v1_17).toArray 67 (0, 0))] :: [(g21, .cells (l67 a0 v0_14 v0_15 v0_16 v0_17).toArray 67 (0, 0))] :: F = H' ∧ ρ' 4 = (Bv x56)) x56 ?_ ?_
 have h357 := h
 have h := hj57
 refine Cg (Pm (Bv x43) hs44_5 rfl (Pm (Bv x43) rfl rfl ?_))
 rcases Bt (x43) with hb58 | hb58
 have h := ite_t hb58 h
 refine On 111 rfl rfl hb58 (Pu (pt g21 16) (Fa fo67_16 hs44_2 rfl) rfl (On 111 rfl rfl hb58 (Pu v0_16 (Lb 1 pl65 rfl rfl rfl) rfl (On 111 rfl rfl hb58 (Pu (pt g22 16) (Fa fo67_16 hs44_3 rfl) rfl (On 111 rfl rfl hb58 (Pu v1_16 (Lb 0 pl65 rfl rfl rfl) rfl (On 111 rfl rfl hb58 ?_))))))))
 obtain ⟨r59, hr60, h⟩ := bnd h
 have h0_16 := h0_16.mono (((hle24.trans hle32).trans hle38).trans hle44)
 have h1_16 := h1_16.mono (((hle24.trans hle32).trans hle38).trans hle44)
 refine We (Ca co67 (f_ref02_Ints_ok a0.Add a1.Add _ _ _ h0_16 h1_16 r59 hr60) (args2 rfl rfl)) rfl ?_
 rintro _ M61 _ hle62 ⟨_, ⟨rfl, rfl⟩, rfl⟩
 refine WL.a0 (Pu (Bv r59) (Pt rfl hb58 rfl) rfl (Pm (Bv r59) rfl rfl ?_))
 rcases Bt (r59) with hb64 | hb64
 have h := ite_t hb64 h
 refine On 118 rfl rfl hb64 (Pu (pt g21 17) (Fa fo67_17 hs44_2 rfl) rfl (On 118 rfl rfl hb64 (Pu v0_17 (Lb 1 pl65 rfl rfl rfl) rfl (On 118 rfl rfl hb64 (Pu (pt g22 17) (Fa fo67_17 hs44_3 rfl) rfl (On 118 rfl rfl hb64 (Pu v1_17 (Lb 0 pl65 rfl rfl rfl) rfl (On 118 rfl rfl hb64 ?_))))))))
 obtain ⟨r65, hr66, h⟩ := bnd h
 have h0_17 := h0_17.mono ((((hle24.trans hle32).trans hle38).trans hle44).trans hle62)
 have h1_17 := h1_17.mono ((((hle24.trans hle32).trans hle38).trans hle44).trans hle62)
 refine We (Ca co67 (f_ref02_Ints_ok a0.Drop a1.Drop _ _ _ h0_17 h1_17 r65 hr66) (args2 rfl rfl)) rfl ?_
 rintro _ M67 _ hle68 ⟨_, ⟨rfl, rfl⟩, rfl⟩
 refine WL.a0 (Pu (Bv r65) (Pt rfl hb64 rfl) rfl (Pa (Bv r65) rfl rfl (Wz ?_)))
 obtain rfl := oi h
 exact Tj ⟨(hle62.trans hle68), rfl, rfl⟩
 have h := ite_f hb64 h
 iterate 5 refine Of 118 rfl rfl hb64 rfl ?_
 refine Pu (Bv false) (Pf rfl hb64 rfl) rfl (Pa (Bv false) rfl rfl (Wz ?_))
 obtain rfl := oi h
 exact Tj ⟨hle62, rfl, rfl⟩
 have h := ite_f hb58 h
 iterate 5 refine Of 111 rfl rfl hb58 rfl ?_
 refine Pu (Bv false) (Pf rfl hb58 rfl) rfl (Pm (Bv false) rfl rfl ?_)
 iterate 5 refine Of 118 rfl rfl rfl rfl ?_
 refine Pu (Bv false) (Pf rfl rfl rfl) rfl (Pa (Bv false) rfl rfl (Wz ?_))
 obtain rfl := oi h
 exact Tj ⟨lr, rfl, rfl⟩
 rintro ρ57 M57 H57 ⟨hle57, rfl, hs57_4⟩
 exact Cr (Dr (Dr (Rf h [] rfl (Rs rfl hs57_4) ((((hle24.trans hle32).trans hle38).trans hle44).trans hle57) ⟨rfl, rfl⟩)))

noncomputable def f_ref06_Same_l0 (a0 : T_api_Batch) (a1 : T_api_Batch) (s_ : Int) : Option (Int ⊕ (Unit ⊕ Unit)) :=
  match s_ with
  | x30 =>
    (if (decide (x30 < (a0.Records.length : Int))) = true then (grd (0 ≤ x30 ∧ x30 < a0.Records.length) (grd (0 ≤ x30 ∧ x30 < a1.Records.length) ((f_ref05_Same (rd a0.Records x30) (rd a1.Records x30)).bind fun (r46 : Bool) => (if (!r46) = true then (some (Sum.inr (Sum.inr ()))) else (some (Sum.inl (IntKind.i64.wrap (x30 + (1 : Int))))))))) else (some (Sum.inr (Sum.inl ()))))
noncomputable def f_ref06_Same (a0 : T_api_Batch) (a1 : T_api_Batch) : Option Bool :=
  (((if (decide (a0.Term ≠ a1.Term)) = true then (some true) else (if (decide (a0.Base ≠ a1.Base)) = true then (some true) else (some (decide ((a0.Records.length : Int) ≠ (a1.Records.length : Int)))))) : Option Bool).bind fun (x23 : Bool) => (if x23 = true then (some false) else ((((iter (f_ref06_Same_l0 a0 a1) (0 : Int)).bind (Sum.elim (fun _ => (some (Sum.inl ()))) (fun _ => (((some false)).bind fun r => some (Sum.inr r))))) : Option (Unit ⊕ Bool)).bind (Sum.elim (fun _ => (some true)) some))))
def f_ref06_Same_post (a0 : T_api_Batch) (a1 : T_api_Batch) (v0_2 v1_2 : Value) : Bool → Value → IM → HL → Prop :=
  fun (r0 : Bool) (v : Value) (M' : IM) (H' : HL) => (.bool r0) = v ∧ H' = []
theorem f_ref06_Same_ok (a0 : T_api_Batch) (a1 : T_api_Batch) (M : IM) (v0_2 v1_2 : Value) (h0_2 : RS kd_api_Record M v0_2 a0.Records) (h1_2 : RS kd_api_Record M v1_2 a1.Records) (res : Bool) (h : f_ref06_Same a0 a1 = some res) :
    Tri Tryz.prog 12 #[(a24_ a0 v0_2), (a24_ a1 v1_2)] M [] (f_ref06_Same_post a0 a1 v0_2 v1_2 res) := by
 unfold f_ref06_Same at h
 refine Te Tryz.func12 rfl rfl ?_
 intro F ρ hρ
 refine Sr (We (EO.box (cs := (l24 a0 v0_2).toArray) (congrArg Value.cells (asE (a24_ a0 v0_2) (hρ 0)))) rfl ?_)
 rintro _ _ _ - ⟨rfl, g21, rfl, rfl⟩
 refine We (EO.box (cs := (l24 a1 v1_2).toArray) (congrArg Value.cells (asE (a24_ a1 v1_2) (hρ 1)))) rfl ?_
 rintro _ _ _ - ⟨rfl, g22, rfl, rfl⟩
 refine Pa (Bv false) rfl rfl (Nt (Cs ?_))
 obtain ⟨x23, hj24, h⟩ := bnd h
 refine Jf (fun (x23 : Bool) ρ' M' H' => M.le M' ∧ [(g22, .cells (l24 a1 v1_2).toArray 24 (0, 0))] :: [(g21, .cells (l24 a0 v0_2).toArray 24 (0, 0))] :: F = H' ∧ ρ' 2 = (pt g21 0) ∧ ρ' 3 = (pt g22 0) ∧ ρ' 26 = (Bv x23)) x23 ?_ ?_
 have h324 := h
 have h := hj24
 refine Cg (Pu (pt g21 0) (Fa fo24_0 rfl rfl) rfl (Pu (Iv a0.Term) (Lb 1 pl3 rfl rfl rfl) rfl (Pu (pt g22 0) (Fa fo24_0 rfl rfl) rfl (Pu (Iv a1.Term) (Lb 0 pl3 rfl rfl rfl) rfl (Pu (Bv (decide (a0.Term ≠ a1.Term))) (PO.neq rfl rfl) rfl (Pm (Bv (decide (a0.Term ≠ a1.Term))) rfl rfl ?_))))))
 rcases Bt (decide (a0.Term ≠ a1.Term)) with hb25 | hb25
 have h := ite_t hb25 h
 iterate 5 refine Of 11 rfl rfl hb25 rfl ?_
 refine Pu (Bv true) (Pt rfl hb25 rfl) rfl (Pm (Bv true) rfl rfl ?_)
 iterate 7 refine Of 18 rfl rfl rfl rfl ?_
 refine Pu (Bv true) (Pt rfl rfl rfl) rfl (Wz ?_)
 obtain rfl := oi h
 exact Tj ⟨lr, rfl, rfl, rfl, rfl⟩
 have h := ite_f hb25 h
 refine On 11 rfl rfl hb25 (Pu (pt g21 1) (Fa fo24_1 rfl rfl) rfl (On 11 rfl rfl hb25 (Pu (Iv a0.Base) (Lb 1 pl3 rfl rfl rfl) rfl (On 11 rfl rfl hb25 (Pu (pt g22 1) (Fa fo24_1 rfl rfl) rfl (On 11 rfl rfl hb25 (Pu (Iv a1.Base) (Lb 0 pl3 rfl rfl rfl) rfl (On 11 rfl rfl hb25 (Pu (Bv (decide (a0.Base ≠ a1.Base))) (PO.neq rfl rfl) rfl (Pu (Bv (decide (a0.Base ≠ a1.Base))) (Pf rfl hb25 rfl) rfl (Pm (Bv (decide (a0.Base ≠ a1.Base))) rfl rfl ?_)))))))))))
 rcases Bt (decide (a0.Base ≠ a1.Base)) with hb26 | hb26
 have h := ite_t hb26 h
 iterate 7 refine Of 18 rfl rfl hb26 rfl ?_
 refine Pu (Bv true) (Pt rfl hb26 rfl) rfl (Wz ?_)
 obtain rfl := oi h
 exact Tj ⟨lr, rfl, rfl, rfl, rfl⟩
 have h := ite_f hb26 h
 refine On 18 rfl rfl hb26 (Pu (pt g21 2) (Fa fo24_2 rfl rfl) rfl (On 18 rfl rfl hb26 (Pu v0_2 (Lb 1 pl22 rfl rfl rfl) rfl (On 18 rfl rfl hb26 (Pu (Iv (a0.Records.length : Int)) (PO.lenS Tryz.underlying22 rfl h0_2.len) rfl (On 18 rfl rfl hb26 (Pu (pt g22 2) (Fa fo24_2 rfl rfl) rfl (On 18 rfl rfl hb26 (Pu v1_2 (Lb 0 pl22 rfl rfl rfl) rfl (On 18 rfl rfl hb26 (Pu (Iv (a1.Records.length : Int)) (PO.lenS Tryz.underlying22 rfl h1_2.len) rfl ?_)))))))))))
 refine On 18 rfl rfl hb26 (Pu (Bv (decide ((a0.Records.length : Int) ≠ (a1.Records.length : Int)))) (PO.neq rfl rfl) rfl (Pu (Bv (decide ((a0.Records.length : Int) ≠ (a1.Records.length : Int)))) (Pf rfl hb26 rfl) rfl (Wz ?_)))
 obtain rfl := oi h
 exact Tj ⟨lr, rfl, rfl, rfl, rfl⟩
 rintro ρ24 M24 H24 ⟨hle24, rfl, hs24_2, hs24_3, hs24_26⟩
 refine Cd (b := x23) hs24_26 (fun hb27 => ?_) (fun hb27 => ?_)
 have h := ite_t hb27 h
 exact Sr (Pa (Bv false) rfl rfl (Nt (Cr (Tr (Dr (Dr (Rf h [] rfl (Rs rfl rfl) hle24 ⟨rfl, rfl⟩)))))))
 have h := ite_f hb27 h
 refine Ck (Tc ?_)
 obtain ⟨j28, hj28, h⟩ := bnd h
 refine WC.joinE (fun (_ : Unit) ρ' M' H' => M24.le M' ∧ [(g22, .cells (l24 a1 v1_2).toArray 24 (0, 0))] :: [(g21, .cells (l24 a0 v0_2).toArray 24 (0, 0))] :: F = H') j28 ?_ ?_
 have h328 := h
 have h := hj28
 refine Sr (Pa (Iv 0) rfl rfl (Nt (Bk ?_)))
 obtain ⟨e29, he29, hK29⟩ := bnd h
 clear h
 refine WC.loop he29 (fun (x30 : Int) ρ' M' H' => M24.le M' ∧ [(g22, .cells (l24 a1 v1_2).toArray 24 (0, 0))] :: [(g21, .cells (l24 a0 v0_2).toArray 24 (0, 0))] :: F = H' ∧ ρ' 2 = (pt g21 0) ∧ ρ' 3 = (pt g22 0) ∧ ρ' 5 = (Iv x30)) ?_ ?_
 exact ⟨lr, rfl, hs24_2, hs24_3, rfl⟩
 rintro x30 o29 ρ29 M29 H29 h ⟨hle29, rfl, hs29_2, hs29_3, hs29_5⟩
 unfold f_ref06_Same_l0 at h
 refine Cs (Sr (Pm (Iv x30) hs29_5 rfl (Pu (pt g21 2) (Fa fo24_2 hs29_2 rfl) rfl (Pu v0_2 (Lb 1 pl22 rfl rfl rfl) rfl ?_))))
 have h0_2 := h0_2.mono (hle24.trans hle29)
 refine Pu (Iv (a0.Records.length : Int)) (PO.lenS Tryz.underlying22 rfl h0_2.len) rfl (Pu (Bv (decide (x30 < (a0.Records.length : Int)))) (PO.lss rfl rfl) rfl (Nt (Cd (b := decide (x30 < (a0.Records.length : Int))) rfl (fun hb31 => ?_) (fun hb31 => ?_))))
 have h := ite_t hb31 h
 refine Ck (Tc (Cs (Bk (Cs (WC.draw [0, 1, 0, 7, 15, 0, 32, 0, 224, 480, 1023, 2047] (.pure 0 (.pure 1 (.pure 2 (.pure 3 (.pure 4 (.pure 5 (.pure 6 (.pure 7 (.pure 8 (.pure 9 (.alt 10 (.pure 11 .done) .none))))))))))) mixed (by kernel_rfl) (Tp (pt g21 2) rfl (Fa fo24_2 hs29_2 rfl) rfl (Tp v0_2 rfl (Lb 1 pl22 rfl rfl rfl) rfl (Tp (Iv x30) rfl (Mv hs29_5) rfl ?_))))))))
 obtain ⟨hg32, h⟩ := grd_i h
 obtain ⟨p33, cs34, hat35, hrc36, hhas37⟩ := h0_2.at hg32.1 hg32.2 (by decide)
 obtain ⟨vw38_14, vw38_15, vw38_16, vw38_17, rfl, hw38_14, hw38_15, hw38_16, hw38_17⟩ := kd_api_Record_open hrc36
 refine Tp (.pointer (some p33)) rfl (PO.indexAddr (n := a0.Records.length) Tryz.underlying22 sz67 rfl rfl hg32.1 hg32.2 hat35) rfl (Tp (a67_ (rd a0.Records x30) vw38_14 vw38_15 vw38_16 vw38_17) rfl (PO.loadMA (cs := (l67 (rd a0.Records x30) vw38_14 vw38_15 vw38_16 vw38_17)) ag67 sz67 rfl hhas37) rfl (Tp (pt g22 2) rfl (Fa fo24_2 hs29_3 rfl) rfl (Tp v1_2 rfl (Lb 0 pl22 rfl rfl rfl) rfl (Tp (Iv x30) rfl (Mv hs29_5) rfl ?_))))
 obtain ⟨hg39, h⟩ := grd_i h
 have h1_2 := h1_2.mono (hle24.trans hle29)
 obtain ⟨p40, cs41, hat42, hrc43, hhas44⟩ := h1_2.at hg39.1 hg39.2 (by decide)
 obtain ⟨vw45_14, vw45_15, vw45_16, vw45_17, rfl, hw45_14, hw45_15, hw45_16, hw45_17⟩ := kd_api_Record_open hrc43
 refine Tp (.pointer (some p40)) rfl (PO.indexAddr (n := a1.Records.length) Tryz.underlying22 sz67 rfl rfl hg39.1 hg39.2 hat42) rfl (Tp (a67_ (rd a1.Records x30) vw45_14 vw45_15 vw45_16 vw45_17) rfl (PO.loadMA (cs := (l67 (rd a1.Records x30) vw45_14 vw45_15 vw45_16 vw45_17)) ag67 sz67 rfl hhas44) rfl ?_)
 obtain ⟨r46, hr47, h⟩ := bnd h
 refine Ta rfl (Ca co37 (f_ref05_Same_ok (rd a0.Records x30) (rd a1.Records x30) _ _ _ _ _ _ _ _ _ hw38_14 hw38_15 hw38_16 hw38_17 hw45_14 hw45_15 hw45_16 hw45_17 r46 hr47) (args2 rfl rfl)) rfl ?_ ?_
 rintro _ M48 _ hle49 ⟨_, ⟨rfl, rfl⟩, rfl⟩
 refine ⟨(Sl rfl), ?_⟩
 refine WT.a0 (Tp (Bv (!r46)) rfl (PO.not rfl) rfl (Ti (Tc (Cd (b := !r46) rfl (fun hb51 => ?_) (fun hb51 => ?_)))))
 have h := ite_t hb51 h
 refine Sr (Pa (Bv false) rfl rfl (Nt (Cr (Br (Tr (WQ.leaveR (Sum.inr ()) (oi h).symm (fun heq29 => ?_)))))))
 subst heq29
 have h := (elimR hK29)
 refine Br (Tr ?_)
 have h := KK.early h h328
 exact Dr (Dr (Rf h [] rfl (Rs rfl rfl) ((hle24.trans hle29).trans hle49) ⟨rfl, rfl⟩))
 have h := ite_f hb51 h
 exact Ck (Bn (Tc (Cg (Pm (Iv x30) hs29_5 rfl (Pu (Iv (IntKind.i64.wrap (x30 + 1))) (PO.add rfl rfl) rfl (Pa (Iv (IntKind.i64.wrap (x30 + 1))) rfl rfl (Wz (WQ.again (IntKind.i64.wrap (x30 + 1)) (oi h).symm ⟨(hle29.trans hle49), rfl, hs29_2, hs29_3, rfl⟩))))))))
 exact Tz
 have h := ite_f hb31 h
 refine WC.exit (WQ.thenE (WQ.leaveE (Sum.inl ()) (oi h).symm (fun heq29 => ?_)))
 subst heq29
 have h := elimL hK29
 exact WQ.blockH (WQ.thenFE h ⟨hle29, rfl⟩)
 rintro _ ρ28 M28 H28 rfl ⟨hle28, rfl⟩
 have h := (Sum.elim_inl _ _ _).symm.trans h
 exact Sr (Pa (Bv true) rfl rfl (Nt (Cr (Dr (Dr (Rf h [] rfl (Rs rfl rfl) (hle24.trans hle28) ⟨rfl, rfl⟩))))))

noncomputable def f_errors_as_fault_l0 (a1 : T_api_Fault) (s_ : GErr) : Option (GErr ⊕ (Bool × ByteArray × Int × GErr)) :=
  match s_ with
  | x23 =>
    (match x23 with | .nil => none | .code n28 => (some (Sum.inr (false, a1.Op, a1.At, a1.Err))) | .fault o29 a30 e31 => (some (Sum.inr (true, o29, a30, e31))) | .other b32 => (some (Sum.inr (false, a1.Op, a1.At, a1.Err))))
noncomputable def f_errors_as_fault (a0 : GErr) (a1 : T_api_Fault) : Option (Bool × ByteArray × Int × GErr) :=
  ((iter (f_errors_as_fault_l0 a1) a0).bind (fun (x24, x25, x26, x27) => (some (x24, x25, x26, x27))))
def f_errors_as_fault_post (a0 : GErr) (a1 : T_api_Fault) (g1 g2 : Nat) : (Bool × ByteArray × Int × GErr) → Value → IM → HL → Prop :=
  fun (p_ : (Bool × ByteArray × Int × GErr)) (v : Value) (M' : IM) (H' : HL) => match p_ with | (r0, r1, r2, r3) => (.bool r0) = v ∧ H' = [[(g1, .cells #[(.string r1), (.int .i64 r2), (GV r3)] 94 (0, 0))], [(g2, .cells #[(.pointer (some ⟨g1, 0, none⟩))] 95 (0, 0))]]
theorem f_errors_as_fault_ok (a0 : GErr) (a1 : T_api_Fault) (M : IM) (g1 g2 : Nat) (res : (Bool × ByteArray × Int × GErr)) (h : f_errors_as_fault a0 a1 = some res) :
    Tri Tryz.prog 95 #[(GV a0), (.iface 95 (pt g1 0)), (.agg #[(pt 1 95), (pt g2 0), (Uv 150)]), (.iface 167 (.agg #[.pointer (some ⟨1, 94, none⟩)]))] M [[(g1, .cells (l94 a1).toArray 94 (0, 0))], [(g2, .cells #[(pt g1 0)] 95 (0, 0))]] (f_errors_as_fault_post a0 a1 g1 g2 res) := by
 unfold f_errors_as_fault at h
 refine Te Tryz.func95 rfl rfl ?_
 intro F ρ hρ
 refine Sr (We (EO.box (cs := #[(pt 1 95), (pt g2 0), (Uv 150)]) (congrArg Value.cells (asE (.agg #[(pt 1 95), (pt g2 0), (Uv 150)]) (hρ 2)))) rfl ?_)
 rintro _ _ _ - ⟨rfl, g21, rfl, rfl⟩
 refine Pa (Bv false) rfl rfl (Nt (Bk ?_))
 obtain ⟨e22, he22, hK22⟩ := bnd h
 clear h
 refine WC.loop he22 (fun (x23 : GErr) ρ' M' H' => M.le M' ∧ [(g21, .cells #[(pt 1 95), (pt g2 0), (Uv 150)] 139 (0, 0))] :: [(g1, .cells (l94 a1).toArray 94 (0, 0))] :: [(g2, .cells #[(pt g1 0)] 95 (0, 0))] :: F = H' ∧ ρ' 0 = (GV x23) ∧ ρ' 1 = (.iface 95 (pt g1 0)) ∧ ρ' 3 = (.iface 167 (.agg #[.pointer (some ⟨1, 94, none⟩)])) ∧ ρ' 6 = (pt g21 0)) ?_ ?_
 exact ⟨lr, rfl, (hρ 0), (hρ 1), (hρ 3), rfl⟩
 rintro x23 o22 ρ22 M22 H22 h ⟨hle22, rfl, hs22_0, hs22_1, hs22_3, hs22_6⟩
 unfold f_errors_as_fault_l0 at h
 refine Bk (Cs (Sr (Pm (GV x23) hs22_0 rfl ?_)))
 rcases x23 with _ | n28 | ⟨o29, a30, e31⟩ | b32
 refine We (EO.extP xt96 (args1 (show ev _ _ = .nilIface from rfl)) tyNil) rfl ?_
 rintro _ _ _ - ⟨rfl, rfl, rfl⟩
 exact Pm (.iface 167 (.agg #[.pointer (some ⟨1, 94, none⟩)])) hs22_3 rfl (nones h)
 refine We (EO.extP xt96 (args1 (show ev _ _ = (.iface 31 (Iv n28)) from rfl)) (ty31 _)) rfl ?_
 rintro _ _ _ - ⟨rfl, rfl, rfl⟩
 refine Pm (.iface 167 (.agg #[.pointer (some ⟨1, 94, none⟩)])) hs22_3 rfl (We (EO.invE (show ev _ _ = (.iface 167 (.agg #[.pointer (some ⟨1, 31, none⟩)])) from rfl) (mm_AssignableTo (pt 1 31)) xt147 (inv1 rfl) mr_AssignableTo_31_94) rfl ?_)
 rintro _ _ _ - ⟨rfl, rfl, rfl⟩
 refine Nt (WC.condF (b := false) rfl rfl (Ck (Tc (Cs (Sr (Pm (GV (GErr.code n28)) hs22_0 rfl (Pu (.tuple #[.nilIface, (Bv false)]) (PO.asserts (show ev _ _ = (.iface 31 (Iv n28)) from rfl) (la31_171 _ _)) rfl (Pm (.tuple #[.nilIface, (Bv false)]) rfl rfl (Pu .nilIface (Xt rfl rfl) rfl (Pu (Bv false) (Xt rfl rfl) rfl (Pa .nilIface rfl rfl ?_)))))))))))
 refine Pa (Bv false) rfl rfl (Ns (Pm (Bv false) rfl rfl (Pm (Bv false) rfl rfl ?_)))
 iterate 3 refine Of 31 rfl rfl rfl rfl ?_
 refine Pu (Bv false) (Pf rfl rfl rfl) rfl (Nt (WC.condF (b := false) rfl rfl (Ck (Tc (Sr (Pm (GV (GErr.code n28)) hs22_0 rfl (Nt (Bk (Sr (Pu (.tuple #[.nilIface, (Bv false)]) (PO.asserts (show ev _ _ = (.iface 31 (Iv n28)) from rfl) (la31_174 _ _)) rfl (Pu (Bv false) (Xt rfl rfl) rfl ?_)))))))))))
 refine Pu .nilIface (Xt rfl rfl) rfl (Nt (WC.condF (b := false) rfl rfl (Sr (Pu (.tuple #[.nilIface, (Bv false)]) (PO.asserts (show ev _ _ = (.iface 31 (Iv n28)) from rfl) (la31_175 _ _)) rfl (Pu (Bv false) (Xt rfl rfl) rfl (Pu .nilIface (Xt rfl rfl) rfl (Nt (WC.condF (b := false) rfl rfl (Sr (Pa (GV (GErr.code n28)) rfl rfl (Ns ?_)))))))))))
 refine Pa (Bv false) rfl rfl (Nt (Cr (Br (Br (WQ.leaveR (false, a1.Op, a1.At, a1.Err) (oi h).symm (fun heq22 => ?_))))))
 subst heq22
 have h := hK22
 exact Br (Dr (Rf h [[(g1, .cells (l94 a1).toArray 94 (0, 0))], [(g2, .cells #[(pt g1 0)] 95 (0, 0))]] rfl (Rs rfl rfl) hle22 ⟨rfl, rfl⟩))
 refine We (EO.extP xt96 (args1 (show ev _ _ = (.iface 94 (.agg #[.string o29, .int .i64 a30, GV e31])) from rfl)) (ty94 _)) rfl ?_
 rintro _ _ _ - ⟨rfl, rfl, rfl⟩
 refine Pm (.iface 167 (.agg #[.pointer (some ⟨1, 94, none⟩)])) hs22_3 rfl (We (EO.invE (show ev _ _ = (.iface 167 (.agg #[.pointer (some ⟨1, 94, none⟩)])) from rfl) (mm_AssignableTo (pt 1 94)) xt147 (inv1 rfl) mr_AssignableTo_94_94) rfl ?_)
 rintro _ _ _ - ⟨rfl, rfl, rfl⟩
 refine Nt (WC.condT (b := true) rfl rfl (Sr (Pu (.agg #[(pt 1 95), (pt g2 0), (Uv 150)]) (La (cs := [(pt 1 95), (pt g2 0), (Uv 150)]) 0 ag139 sz139 hs22_6 rfl rfl) rfl (We (EO.rvElem (r := fun p => .agg #[(pt 1 94), .pointer (some p), .int .u64 409]) 2 xt116 pp95_150 rfl pl95 el95 mk94 (args1 (show ev _ _ = (.agg #[(pt 1 95), (pt g2 0), (Uv 150)]) from rfl)) rfl) rfl ?_))))
 rintro _ _ _ - ⟨rfl, rfl, rfl⟩
 refine Pm (GV (GErr.fault o29 a30 e31)) hs22_0 rfl (We (EO.valueOf xt92 (args1 (show ev _ _ = (.iface 94 (.agg #[.string o29, .int .i64 a30, GV e31])) from rfl)) (vo94 o29 a30 (GV e31))) rfl ?_)
 rintro _ _ _ - ⟨rfl, g33, rfl, rfl⟩
 refine Wb (We (EO.rvSet (arr := (l94 a1)) (vl := [(Sv o29), (Iv a30), (GV e31)]) (v := (.agg #[(Sv o29), (Iv a30), (GV e31)])) xt117 pp94_409 pp94_153 rfl da94 (args2 (show ev _ _ = (.agg #[(pt 1 94), (pt g1 0), (Uv 409)]) from rfl) (show ev _ _ = (.agg #[(pt 1 94), (pt g33 0), (Uv 153)]) from rfl)) (fun _ hs => run_loadAgg (cs := [(Sv o29), (Iv a30), (GV e31)]) ag94 sz94 (fun i v hi => by rw [add_lit]; exact hs.cellC 1 rfl (chunkCell_lit.trans (by simpa using hi)))) rfl sz94 rfl (onesOf (Oc rfl (Oc rfl (Oc (GErr.val_one _ _ _ _) Oz))))) rfl ?_)
 rintro _ _ _ - ⟨rfl, rfl, rfl⟩
 refine Ns (Pa (Bv true) rfl rfl (Nt (Cr (Tr (Br (WQ.leaveR (true, o29, a30, e31) (oi h).symm (fun heq22 => ?_)))))))
 subst heq22
 have h := hK22
 exact Br (Qa (Dr (Qa (Dr (Rf h [[(g1, .cells #[(Sv o29), (Iv a30), (GV e31)] 94 (0, 0))], [(g2, .cells #[(pt g1 0)] 95 (0, 0))]] rfl (Rs rfl rfl) hle22 ⟨rfl, rfl⟩)))))
 refine We (EO.extP xt96 (args1 (show ev _ _ = (.iface 0 (.pointer (some b32))) from rfl)) (ty0 _)) rfl ?_
 rintro _ _ _ - ⟨rfl, rfl, rfl⟩
 refine Pm (.iface 167 (.agg #[.pointer (some ⟨1, 94, none⟩)])) hs22_3 rfl (We (EO.invE (show ev _ _ = (.iface 167 (.agg #[.pointer (some ⟨1, 0, none⟩)])) from rfl) (mm_AssignableTo (pt 1 0)) xt147 (inv1 rfl) mr_AssignableTo_0_94) rfl ?_)
 rintro _ _ _ - ⟨rfl, rfl, rfl⟩
 refine Nt (WC.condF (b := false) rfl rfl (Ck (Tc (Cs (Sr (Pm (GV (GErr.other b32)) hs22_0 rfl (Pu (.tuple #[.nilIface, (Bv false)]) (PO.asserts (show ev _ _ = (.iface 0 (.pointer (some b32))) from rfl) (la0_171 _ _)) rfl (Pm (.tuple #[.nilIface, (Bv false)]) rfl rfl (Pu .nilIface (Xt rfl rfl) rfl (Pu (Bv false) (Xt rfl rfl) rfl (Pa .nilIface rfl rfl ?_)))))))))))
 refine Pa (Bv false) rfl rfl (Ns (Pm (Bv false) rfl rfl (Pm (Bv false) rfl rfl ?_)))
 iterate 3 refine Of 31 rfl rfl rfl rfl ?_
 refine Pu (Bv false) (Pf rfl rfl rfl) rfl (Nt (WC.condF (b := false) rfl rfl (Ck (Tc (Sr (Pm (GV (GErr.other b32)) hs22_0 rfl (Nt (Bk (Sr (Pu (.tuple #[.nilIface, (Bv false)]) (PO.asserts (show ev _ _ = (.iface 0 (.pointer (some b32))) from rfl) (la0_174 _ _)) rfl (Pu (Bv false) (Xt rfl rfl) rfl ?_)))))))))))
 refine Pu .nilIface (Xt rfl rfl) rfl (Nt (WC.condF (b := false) rfl rfl (Sr (Pu (.tuple #[.nilIface, (Bv false)]) (PO.asserts (show ev _ _ = (.iface 0 (.pointer (some b32))) from rfl) (la0_175 _ _)) rfl (Pu (Bv false) (Xt rfl rfl) rfl (Pu .nilIface (Xt rfl rfl) rfl (Nt (WC.condF (b := false) rfl rfl (Sr (Pa (GV (GErr.other b32)) rfl rfl (Ns ?_)))))))))))
 refine Pa (Bv false) rfl rfl (Nt (Cr (Br (Br (WQ.leaveR (false, a1.Op, a1.At, a1.Err) (oi h).symm (fun heq22 => ?_))))))
 subst heq22
 have h := hK22
 exact Br (Dr (Rf h [[(g1, .cells (l94 a1).toArray 94 (0, 0))], [(g2, .cells #[(pt g1 0)] 95 (0, 0))]] rfl (Rs rfl rfl) hle22 ⟨rfl, rfl⟩))

noncomputable def f_errors_As_fault (a0 : GErr) (a1 : T_api_Fault) : Option (Bool × ByteArray × Int × GErr) :=
  (if a0.isNil = true then (some (false, a1.Op, a1.At, a1.Err)) else ((f_errors_as_fault a0 a1).bind fun (r24, r25, r26, r27) => (some (r24, r25, r26, r27))))
def f_errors_As_fault_post (a0 : GErr) (a1 : T_api_Fault) (g1 : Nat) : (Bool × ByteArray × Int × GErr) → Value → IM → HL → Prop :=
  fun (p_ : (Bool × ByteArray × Int × GErr)) (v : Value) (M' : IM) (H' : HL) => match p_ with | (r0, r1, r2, r3) => (.bool r0) = v ∧ H' = [[(g1, .cells #[(.string r1), (.int .i64 r2), (GV r3)] 94 (0, 0))]]
theorem f_errors_As_fault_ok (a0 : GErr) (a1 : T_api_Fault) (M : IM) (g1 : Nat) (hE : Env M) (res : (Bool × ByteArray × Int × GErr)) (h : f_errors_As_fault a0 a1 = some res) :
    Tri Tryz.prog 50 #[(GV a0), (.iface 95 (pt g1 0))] M [[(g1, .cells (l94 a1).toArray 94 (0, 0))]] (f_errors_As_fault_post a0 a1 g1 res) := by
 unfold f_errors_As_fault at h
 refine Te Tryz.func50 rfl rfl ?_
 intro F ρ hρ
 refine Sr (Pa (Bv false) rfl rfl (Nt (Cs (Sr (Pm (GV a0) (hρ 0) rfl (Pu (Bv a0.isNil) (PO.errNil Tryz.underlying29 rfl) rfl (Nt (Cd (b := a0.isNil) rfl (fun hb21 => ?_) (fun hb21 => ?_)))))))))
 have h := ite_t hb21 h
 exact Sr (Pa (Bv false) rfl rfl (Nt (Cr (Tr (Rf h [[(g1, .cells (l94 a1).toArray 94 (0, 0))]] rfl (Rs rfl rfl) lr ⟨rfl, rfl⟩)))))
 have h := ite_f hb21 h
 refine Ck (Tc (Cs (Sr (Pm (.iface 95 (pt g1 0)) (hρ 1) rfl (Pu (Bv false) (PO.ifcNil Tryz.underlying20 rfl) rfl (Nt (WC.condF (b := false) rfl rfl (Ck (Tc (Sr (Pm (.iface 95 (pt g1 0)) (hρ 1) rfl ?_)))))))))))
 refine We (EO.valueOf xt92 (args1 (show ev _ _ = (.iface 95 (pt g1 0)) from rfl)) (vo95 ⟨g1, 0, none⟩)) rfl ?_
 rintro _ _ _ - ⟨rfl, g22, rfl, rfl⟩
 refine We (Al ze139 rfl) rfl ?_
 rintro _ _ _ - ⟨rfl, g23, rfl, rfl⟩
 refine We (Sg (v := (.agg #[(pt 1 95), (pt g22 0), (Uv 150)])) (vl := [(pt 1 95), (pt g22 0), (Uv 150)]) (arr' := [(pt 1 95), (pt g22 0), (Uv 150)]) rfl sz139 rfl rfl (onb rfl) rfl rfl rfl) rfl ?_
 rintro _ _ _ - ⟨rfl, rfl⟩
 refine Ns (Pu (.agg #[(pt 1 95), (pt g22 0), (Uv 150)]) (La (cs := [(pt 1 95), (pt g22 0), (Uv 150)]) 0 ag139 sz139 rfl rfl rfl) rfl (We (EO.extP xt93 (args1 (show ev _ _ = (.agg #[(pt 1 95), (pt g22 0), (Uv 150)]) from rfl)) (vt95_150 _)) rfl ?_))
 rintro _ _ _ - ⟨rfl, rfl, rfl⟩
 refine Pa (.iface 167 (.agg #[.pointer (some ⟨1, 95, none⟩)])) rfl rfl (Nt (Cs (Sr (Pm (.iface 167 (.agg #[.pointer (some ⟨1, 95, none⟩)])) rfl rfl (We (EO.invE (show ev _ _ = (.iface 167 (.agg #[.pointer (some ⟨1, 95, none⟩)])) from rfl) (mm_Kind (pt 1 95)) xt137 inv0 mr_Kind_95) rfl ?_)))))
 rintro _ _ _ - ⟨rfl, rfl, rfl⟩
 refine Pu (Bv false) (PO.neqR rfl rfl (by decide)) rfl (Pm (Bv false) rfl rfl (On 20 rfl rfl rfl (Pu (.agg #[(pt 1 95), (pt g22 0), (Uv 150)]) (La (cs := [(pt 1 95), (pt g22 0), (Uv 150)]) 0 ag139 sz139 rfl rfl rfl) rfl (On 20 rfl rfl rfl (We (EO.isNil 1 xt94 pp95_150 rfl pl95 (args1 (show ev _ _ = (.agg #[(pt 1 95), (pt g22 0), (Uv 150)]) from rfl)) rfl) rfl ?_)))))
 rintro _ _ _ - ⟨rfl, rfl, rfl⟩
 refine Pu (Bv false) (Pf rfl rfl rfl) rfl (Nt (WC.condF (b := false) rfl rfl (Ck (Tc (Sr (Pm (.iface 167 (.agg #[.pointer (some ⟨1, 95, none⟩)])) rfl rfl (We (EO.invE (show ev _ _ = (.iface 167 (.agg #[.pointer (some ⟨1, 95, none⟩)])) from rfl) (mm_Elem (pt 1 95)) xt149 inv0 mr_Elem_95) rfl ?_)))))))
 rintro _ _ _ - ⟨rfl, rfl, rfl⟩
 refine Pa (.iface 167 (.agg #[.pointer (some ⟨1, 94, none⟩)])) rfl rfl (Nt (Cs (Sr (Pm (.iface 167 (.agg #[.pointer (some ⟨1, 94, none⟩)])) rfl rfl (We (EO.invE (show ev _ _ = (.iface 167 (.agg #[.pointer (some ⟨1, 94, none⟩)])) from rfl) (mm_Kind (pt 1 94)) xt137 inv0 mr_Kind_94) rfl ?_)))))
 rintro _ _ _ - ⟨rfl, rfl, rfl⟩
 refine Pu (Bv true) (PO.neqR rfl rfl (by decide)) rfl (Pm (Bv true) rfl rfl (On 30 rfl rfl rfl (Pm (.iface 167 (.agg #[.pointer (some ⟨1, 94, none⟩)])) rfl rfl (On 30 rfl rfl rfl (Pu (.iface 167 (.agg #[.pointer (some ⟨1, 29, none⟩)])) (PO.loadG pl142 hE) rfl (On 30 rfl rfl rfl (We (EO.invE (show ev _ _ = (.iface 167 (.agg #[.pointer (some ⟨1, 94, none⟩)])) from rfl) (mm_Implements (pt 1 94)) xt150 (inv1 rfl) mr_Implements_94_29) rfl ?_)))))))
 rintro _ _ _ - ⟨rfl, rfl, rfl⟩
 refine On 30 rfl rfl rfl (Pu (Bv (!true)) (PO.not rfl) rfl (Pu (Bv (!true)) (Pt rfl rfl rfl) rfl (Nt (WC.condF (b := !true) rfl rfl (Ck (Tc (Sr (Pm (GV a0) (hρ 0) rfl (Pm (.iface 95 (pt g1 0)) (hρ 1) rfl (Pu (.agg #[(pt 1 95), (pt g22 0), (Uv 150)]) (La (cs := [(pt 1 95), (pt g22 0), (Uv 150)]) 0 ag139 sz139 rfl rfl rfl) rfl (Pm (.iface 167 (.agg #[.pointer (some ⟨1, 94, none⟩)])) rfl rfl ?_)))))))))))
 obtain ⟨⟨r24, r25, r26, r27⟩, hr28, h⟩ := bnd h
 refine WL.f1 (Wb (We (EO.call2 co95 (f_errors_as_fault_ok a0 a1 _ _ _ (r24, r25, r26, r27) hr28) (args4 rfl rfl rfl rfl)) rfl ?_))
 rintro _ M29 _ hle30 ⟨_, ⟨rfl, rfl⟩, rfl⟩
 exact WL.a2 (Pa (Bv r24) rfl rfl (Nt (Cr (Qa (Dr (Qa (Dr (Rf h [[(g1, .cells #[(Sv r25), (Iv r26), (GV r27)] 94 (0, 0))]] rfl (Rs rfl rfl) hle30 ⟨rfl, rfl⟩))))))))

noncomputable def f_fault_Where (a0 : GErr) : Option (Int × Bool) :=
  ((f_errors_As_fault a0 (⟨(⟨#[]⟩ : ByteArray), (0 : Int), GErr.nil⟩ : T_api_Fault)).bind fun (r22, r23, r24, r25) => (if (!r22) = true then (some ((0 : Int), false)) else (some (r24, true))))
def f_fault_Where_post (a0 : GErr) : (Int × Bool) → Value → IM → HL → Prop :=
  fun (p_ : (Int × Bool)) (v : Value) (M' : IM) (H' : HL) => match p_ with | (r0, r1) => (.tuple #[(.int .i64 r0), (.bool r1)]) = v ∧ H' = []
theorem f_fault_Where_ok (a0 : GErr) (M : IM) (hE : Env M) (res : (Int × Bool)) (h : f_fault_Where a0 = some res) :
    Tri Tryz.prog 29 #[(GV a0)] M [] (f_fault_Where_post a0 res) := by
 unfold f_fault_Where at h
 refine Te Tryz.func29 rfl rfl ?_
 intro F ρ hρ
 refine Sr (Pa (Iv 0) rfl rfl (Pa (Bv false) rfl rfl (Ns (We (Al ze94 rfl) rfl ?_))))
 rintro _ _ _ - ⟨rfl, g21, rfl, rfl⟩
 refine Nt (Cs (Sr (Pm (GV a0) (hρ 0) rfl (Pu (.iface 95 (pt g21 0)) (PO.makeInterface cc95 rfl) rfl ?_))))
 obtain ⟨⟨r22, r23, r24, r25⟩, hr26, h⟩ := bnd h
 refine We (Cb co50 (f_errors_As_fault_ok a0 (⟨(⟨#[]⟩ : ByteArray), (0 : Int), GErr.nil⟩ : T_api_Fault) _ _ hE (r22, r23, r24, r25) hr26) (args2 rfl rfl)) rfl ?_
 rintro _ M27 _ hle28 ⟨_, ⟨rfl, rfl⟩, rfl⟩
 refine WL.a1 (Pu (Bv (!r22)) (PO.not rfl) rfl (Nt (Cd (b := !r22) rfl (fun hb30 => ?_) (fun hb30 => ?_))))
 have h := ite_t hb30 h
 exact Sr (Pa (Iv 0) rfl rfl (Pa (Bv false) rfl rfl (Nt (Cr (Tr (Dr (Rf h [] rfl (results2 rfl rfl rfl) hle28 ⟨rfl, rfl⟩)))))))
 have h := ite_f hb30 h
 exact Ck (Tc (Sr (Pu (pt g21 1) (Fa fo94_1 rfl rfl) rfl (Pu (Iv r24) (Lb 0 pl3 rfl rfl rfl) rfl (Pa (Iv r24) rfl rfl (Pa (Bv true) rfl rfl (Nt (Cr (Dr (Rf h [] rfl (results2 rfl rfl rfl) hle28 ⟨rfl, rfl⟩))))))))))


end Go.Proofs.YtjiffdgidodebaaGreatDoor.G
