/- Go functions: what they come to, and that they do. Printed by a program of the session (gen). -/
import Derived.Test.YtjiffdgidodebaaGreatDoorRF
import Derived.Test.YtjiffdgidodebaaGreatDoorR7
import Derived.Test.YtjiffdgidodebaaGreatDoorKShar2
import Derived.Test.YtjiffdgidodebaaGreatDoorKConv
import Derived.Test.YtjiffdgidodebaaGreatDoorKTight
set_option linter.unusedVariables false
set_option linter.unusedSimpArgs false
set_option maxHeartbeats 8000000
set_option maxRecDepth 100000
namespace Go.Proofs.YtjiffdgidodebaaGreatDoor.G
open Go Go.KK

noncomputable def f_ref02_text (a0 : (List Int)) (a1 : T_ref02_State) (a2 : Int) : Option (T_ref02_State × (List Int)) :=
  ((((f_ref02_above a2).bind fun (r28 : Int) => ((f_ref02_num a0 a1 r28).bind fun (r34, r35) => (some (r34, r35)))) : Option (T_ref02_State × Int)).bind fun (x24, x25) => (if (decide (x24.Code ≠ (0 : Int))) = true then (some (x24, [])) else (if (decide ((IntKind.u64.wrap (IntKind.i64.wrap ((a0.length : Int) - x24.At))) < x25)) = true then ((f_ref02_bad (⟨a1.At, (0 : Int), (⟨#[]⟩ : ByteArray), (0 : Int)⟩ : T_ref02_State) (⟨#[116, 101, 120, 116]⟩ : ByteArray) a1.At (3 : Int)).bind fun (r65 : T_ref02_State) => (some (r65, []))) else (grd (0 ≤ x24.At ∧ x24.At ≤ IntKind.i64.wrap (x24.At + (IntKind.i64.wrap x25)) ∧ IntKind.i64.wrap (x24.At + (IntKind.i64.wrap x25)) ≤ (a0.length : Int)) (some ((⟨IntKind.i64.wrap (x24.At + (IntKind.i64.wrap x25)), (0 : Int), (⟨#[]⟩ : ByteArray), (0 : Int)⟩ : T_ref02_State), sub a0 x24.At (IntKind.i64.wrap (x24.At + (IntKind.i64.wrap x25)))))))))
def f_ref02_text_post (a0 : (List Int)) (a1 : T_ref02_State) (a2 : Int) (v0 : Value) : (T_ref02_State × (List Int)) → Value → IM → HL → Prop :=
  fun (p_ : (T_ref02_State × (List Int))) (v : Value) (M' : IM) (H' : HL) => match p_ with | (r0, r1) => ∃ vz1, (.tuple #[(.agg #[(.int .i64 r0.At), (.int .i64 r0.Code), (.string r0.Op), (.int .i64 r0.Where)]), vz1]) = v ∧ H' = [] ∧ RS (Kd.int .u8) M' vz1 r1
theorem f_ref02_text_ok (a0 : (List Int)) (a1 : T_ref02_State) (a2 : Int) (M : IM) (v0 : Value) (h0 : RS (Kd.int .u8) M v0 a0) (res : (T_ref02_State × (List Int))) (h : f_ref02_text a0 a1 a2 = some res) :
    Tri Tryz.prog 112 #[v0, (a50_ a1), (Iv a2)] M [] (f_ref02_text_post a0 a1 a2 v0 res) := by
 unfold f_ref02_text at h
 refine Te Tryz.func112 rfl rfl ?_
 intro F ρ hρ
 refine Sr (We (EO.box (cs := (l50 a1).toArray) (congrArg Value.cells (asE (a50_ a1) (hρ 1)))) rfl ?_)
 rintro _ _ _ - ⟨rfl, g21, rfl, rfl⟩
 refine We (Al ze50 rfl) rfl ?_
 rintro _ _ _ - ⟨rfl, g22, rfl, rfl⟩
 refine Pa Zs rfl rfl (Nt ?_)
 obtain ⟨j26, hj26, h⟩ := bnd h
 refine Jf (fun (p_ : (T_ref02_State × Int)) ρ' M' H' => match p_ with | (x24, x25) => ∃ g23, M.le M' ∧ [(g22, .cells z50_.toArray 50 (0, 0))] :: [(g21, .cells (l50 a1).toArray 50 (0, 0))] :: [(g23, .cells (l50 x24).toArray 50 (0, 0))] :: F = H' ∧ ρ' 0 = v0 ∧ ρ' 4 = (pt g21 0) ∧ ρ' 6 = (pt g22 0) ∧ ρ' 8 = (pt g23 0) ∧ ρ' 9 = (Uv x25)) j26 ?_ ?_
 have h326 := h
 have h := hj26
 refine WC.draw [0, 0, 0, 4, 15, 31, 63, 63, 0, 383, 1023] (.pure 0 (.pure 1 (.pure 2 (.alt 3 (.alt 4 (.pure 5 (.pure 6 (.pure 7 (.alt 8 (.alt 9 (.pure 10 .done) .none) .none)))) (.alt 8 (.alt 4 (.pure 5 (.pure 6 (.pure 7 (.alt 9 (.pure 10 .done) .none)))) .none) .none)) (.alt 8 (.alt 3 (.alt 4 (.pure 5 (.pure 6 (.pure 7 (.alt 9 (.pure 10 .done) .none)))) .none) .none) .none))))) mixed (by kernel_rfl) (Tp v0 rfl (Mv (hρ 0)) rfl (Tp (a50_ a1) rfl (La (cs := (l50 a1)) 1 ag50 sz50 rfl rfl rfl) rfl (Tp (Iv a2) rfl (Mv (hρ 2)) rfl ?_)))
 have hk27 := h
 obtain ⟨r28, hr29, h⟩ := bnd h
 refine Ta rfl (Ca co111 (f_ref02_above_ok a2 _ r28 hr29) (args1 rfl)) rfl ?_ ?_
 rintro _ M30 _ hle31 ⟨_, ⟨rfl, rfl⟩, rfl⟩
 refine ⟨(Sk 1 rfl (Ss rfl (La (cs := (l50 a1)) 1 ag50 sz50 rfl rfl rfl) rfl (Ss rfl (Mv (hρ 0)) rfl trivial))), ?_⟩
 refine WT.a0 ?_
 have hk33 := h
 obtain ⟨⟨r34, r35⟩, hr36, h⟩ := bnd h
 have h0 := h0.mono hle31
 refine Ta rfl (Ca co110 (f_ref02_num_ok a0 a1 r28 _ _ h0 (r34, r35) hr36) (args3 rfl rfl rfl)) rfl ?_ ?_
 rintro _ M37 _ hle38 ⟨_, ⟨rfl, rfl⟩, rfl⟩
 refine ⟨(Sl rfl), ?_⟩
 refine WT.a0 (Tp (.tuple #[(a50_ r34), (Uv r35)]) rfl (Mv rfl) rfl (Tp (a50_ r34) rfl (Xt rfl rfl) rfl (Tp (Uv r35) rfl (Xt rfl rfl) rfl (Ta rfl (Al ze50 rfl) rfl ?_ ?_))))
 rintro _ _ _ - ⟨rfl, g41, rfl, rfl⟩
 refine ⟨(Ss rfl (Xt rfl rfl) rfl (Ss rfl (Xt rfl rfl) rfl (Ss rfl (Mv rfl) rfl (Ss rfl (Mv (hρ 2)) rfl (Ss rfl (La (cs := (l50 a1)) 2 ag50 sz50 rfl rfl rfl) rfl (Ss rfl (Mv (hρ 0)) rfl trivial)))))), ?_⟩
 refine Ta rfl (Sg (v := (a50_ r34)) (vl := (l50 r34)) (arr' := (l50 r34)) rfl sz50 rfl rfl (onb rfl) rfl rfl rfl) rfl ?_ ?_
 rintro _ _ _ - ⟨rfl, rfl⟩
 refine ⟨(Ss rfl (Xt rfl rfl) rfl (Sl rfl)), ?_⟩
 refine Tp (Uv r35) rfl (Ag rfl) rfl (Ti (Qb (Qb ?_)))
 obtain rfl := oi h
 exact Tj ⟨g41, (hle31.trans hle38), rfl, (hρ 0), rfl, rfl, rfl, rfl⟩
 exact Tz
 exact Tz
 have h := hk33
 refine Ta rfl (Al ze50 rfl) rfl ?_ ?_
 rintro _ _ _ - ⟨rfl, g42, rfl, rfl⟩
 refine ⟨(Ss rfl (Mv (hρ 2)) rfl (Ss rfl (La (cs := (l50 a1)) 2 ag50 sz50 rfl rfl rfl) rfl (Ss rfl (Mv (hρ 0)) rfl trivial))), ?_⟩
 obtain ⟨⟨r43, r44⟩, hr45, h⟩ := bnd h
 refine Ta rfl (Ca co110 (f_ref02_num_ok a0 a1 r28 _ _ h0 (r43, r44) hr45) (args3 rfl rfl rfl)) rfl ?_ ?_
 rintro _ M46 _ hle47 ⟨_, ⟨rfl, rfl⟩, rfl⟩
 refine ⟨(Sl rfl), ?_⟩
 refine WT.a0 (Tp (.tuple #[(a50_ r43), (Uv r44)]) rfl (Mv rfl) rfl (Tp (a50_ r43) rfl (Xt rfl rfl) rfl (Tp (Uv r44) rfl (Xt rfl rfl) rfl (Ta rfl (Sg (v := (a50_ r43)) (vl := (l50 r43)) (arr' := (l50 r43)) rfl sz50 rfl rfl (onb rfl) rfl rfl rfl) rfl ?_ ?_))))
 rintro _ _ _ - ⟨rfl, rfl⟩
 refine ⟨(Ss rfl (Xt rfl rfl) rfl (Sl rfl)), ?_⟩
 refine Tp (Uv r44) rfl (Ag rfl) rfl (Ti (Qb (Qb ?_)))
 obtain rfl := oi h
 exact Tj ⟨g42, (hle31.trans hle47), rfl, (hρ 0), rfl, rfl, rfl, rfl⟩
 exact Tz
 exact Tz
 exact Tz
 have h := hk27
 refine Ta rfl (Al ze50 rfl) rfl ?_ ?_
 rintro _ _ _ - ⟨rfl, g50, rfl, rfl⟩
 refine ⟨(Ss rfl (Mv (hρ 2)) rfl (Ss rfl (La (cs := (l50 a1)) 2 ag50 sz50 rfl rfl rfl) rfl (Ss rfl (Mv (hρ 0)) rfl trivial))), ?_⟩
 obtain ⟨r51, hr52, h⟩ := bnd h
 refine Ta rfl (Ca co111 (f_ref02_above_ok a2 _ r51 hr52) (args1 rfl)) rfl ?_ ?_
 rintro _ M53 _ hle54 ⟨_, ⟨rfl, rfl⟩, rfl⟩
 refine ⟨(Sk 1 rfl (Ss rfl (La (cs := (l50 a1)) 2 ag50 sz50 rfl rfl rfl) rfl (Ss rfl (Mv (hρ 0)) rfl trivial))), ?_⟩
 refine WT.a0 ?_
 obtain ⟨⟨r56, r57⟩, hr58, h⟩ := bnd h
 have h0 := h0.mono hle54
 refine Ta rfl (Ca co110 (f_ref02_num_ok a0 a1 r51 _ _ h0 (r56, r57) hr58) (args3 rfl rfl rfl)) rfl ?_ ?_
 rintro _ M59 _ hle60 ⟨_, ⟨rfl, rfl⟩, rfl⟩
 refine ⟨(Sl rfl), ?_⟩
 refine WT.a0 (Tp (.tuple #[(a50_ r56), (Uv r57)]) rfl (Mv rfl) rfl (Tp (a50_ r56) rfl (Xt rfl rfl) rfl (Tp (Uv r57) rfl (Xt rfl rfl) rfl (Ta rfl (Sg (v := (a50_ r56)) (vl := (l50 r56)) (arr' := (l50 r56)) rfl sz50 rfl rfl (onb rfl) rfl rfl rfl) rfl ?_ ?_))))
 rintro _ _ _ - ⟨rfl, rfl⟩
 refine ⟨(Ss rfl (Xt rfl rfl) rfl (Sl rfl)), ?_⟩
 refine Tp (Uv r57) rfl (Ag rfl) rfl (Ti (Qb (Qb ?_)))
 obtain rfl := oi h
 exact Tj ⟨g50, (hle54.trans hle60), rfl, (hρ 0), rfl, rfl, rfl, rfl⟩
 exact Tz
 exact Tz
 exact Tz
 exact Tz
 obtain ⟨x24, x25⟩ := j26
 rintro ρ26 M26 H26 ⟨g23, hle26, rfl, hs26_0, hs26_4, hs26_6, hs26_8, hs26_9⟩
 refine Cs (Sr (Pu (pt g23 1) (Fa fo50_1 hs26_8 rfl) rfl (Pu (Iv x24.Code) (Lb 2 pl31 rfl rfl rfl) rfl (Pu (Bv (decide (x24.Code ≠ 0))) (PO.neq rfl rfl) rfl (Nt (Cd (b := decide (x24.Code ≠ 0)) rfl (fun hb63 => ?_) (fun hb63 => ?_)))))))
 have h := ite_t hb63 h
 refine Sr (Pu (a50_ x24) (La (cs := (l50 x24)) 2 ag50 sz50 hs26_8 rfl rfl) rfl (We (Sg (v := (a50_ x24)) (vl := (l50 x24)) (arr' := (l50 x24)) rfl sz50 hs26_6 rfl (onb rfl) rfl rfl rfl) rfl ?_))
 rintro _ _ _ - ⟨rfl, rfl⟩
 exact Pa Zs rfl rfl (Nt (Cr (Tr (Qa (Dr (Qa (Dr (Rd h [] (fun _ hs => hs.drop) (resultsLN rfl (RVs.cons (Rc (cs := (l50 x24)) 0 ag50 sz50 hs26_6 rfl rfl) (RVs.cons (RV.tmp rfl) RVs.nil))) hle26 ⟨Zs, rfl, rfl, RS.nil _ _⟩))))))))
 have h := ite_f hb63 h
 refine Ck (Tc (Cs (Sr (Pm v0 hs26_0 rfl ?_))))
 have h0 := h0.mono hle26
 refine Pu (Iv (a0.length : Int)) (PO.lenS Tryz.underlying40 rfl h0.len) rfl (Pu (pt g23 0) (Fa fo50_0 hs26_8 rfl) rfl (Pu (Iv x24.At) (Lb 2 pl3 rfl rfl rfl) rfl (Pu (Iv (IntKind.i64.wrap ((a0.length : Int) - x24.At))) (PO.sub rfl rfl) rfl (Pu (Uv (IntKind.u64.wrap (IntKind.i64.wrap ((a0.length : Int) - x24.At)))) (PO.conv us3 Tryz.underlying112 rfl) rfl (Pm (Uv x25) hs26_9 rfl (Pu (Bv (decide ((IntKind.u64.wrap (IntKind.i64.wrap ((a0.length : Int) - x24.At))) < x25))) (PO.lss rfl rfl) rfl (Nt (Cd (b := decide ((IntKind.u64.wrap (IntKind.i64.wrap ((a0.length : Int) - x24.At))) < x25)) rfl (fun hb64 => ?_) (fun hb64 => ?_)))))))))
 have h := ite_t hb64 h
 refine Sr (Pu (pt g21 0) (Fa fo50_0 hs26_4 rfl) rfl (Pu (Iv a1.At) (Lb 1 pl3 rfl rfl rfl) rfl (Pu (.agg #[(Iv a1.At), (Iv 0), (Sv ⟨#[]⟩), (Iv 0)]) (Bl (cl := [(Iv a1.At), (Iv 0), (Sv ⟨#[]⟩), (Iv 0)]) ze50 fp50 (Pc (Iv a1.At) rfl rfl Pz) rfl) rfl (Pu (pt g21 0) (Fa fo50_0 hs26_4 rfl) rfl (Pu (Iv a1.At) (Lb 1 pl3 rfl rfl rfl) rfl ?_)))))
 obtain ⟨r65, hr66, h⟩ := bnd h
 refine We (Ca co107 (f_ref02_bad_ok (⟨a1.At, (0 : Int), (⟨#[]⟩ : ByteArray), (0 : Int)⟩ : T_ref02_State) (⟨#[116, 101, 120, 116]⟩ : ByteArray) a1.At (3 : Int) _ r65 hr66) (args4 rfl rfl rfl rfl)) rfl ?_
 rintro _ M67 _ hle68 ⟨_, ⟨rfl, rfl⟩, rfl⟩
 refine WL.a0 (We (Sg (v := (a50_ r65)) (vl := (l50 r65)) (arr' := (l50 r65)) rfl sz50 hs26_6 rfl (onb rfl) rfl rfl rfl) rfl ?_)
 rintro _ _ _ - ⟨rfl, rfl⟩
 exact Pa Zs rfl rfl (Nt (Cr (Tr (Qa (Dr (Qa (Dr (Rd h [] (fun _ hs => hs.drop) (resultsLN rfl (RVs.cons (Rc (cs := (l50 r65)) 0 ag50 sz50 hs26_6 rfl rfl) (RVs.cons (RV.tmp rfl) RVs.nil))) (hle26.trans hle68) ⟨Zs, rfl, rfl, RS.nil _ _⟩))))))))
 have h := ite_f hb64 h
 refine Ck (Tc (Cs (WC.draw [0, 1, 0, 4, 15, 31, 0, 0, 128, 0, 512, 0, 2048, 7680, 16320, 63, 65535] (.pure 0 (.pure 1 (.pure 2 (.pure 3 (.pure 4 (.pure 5 (.pure 6 (.pure 7 (.pure 8 (.pure 9 (.pure 10 (.pure 11 (.pure 12 (.pure 13 (.pure 14 (.alt 15 (.pure 16 .done) .none)))))))))))))))) mixed (by kernel_rfl) (Tp (pt g23 0) rfl (Fa fo50_0 hs26_8 rfl) rfl (Tp (Iv x24.At) rfl (Lb 2 pl3 rfl rfl rfl) rfl (Tp (Uv x25) rfl (Mv hs26_9) rfl (Tp (Iv (IntKind.i64.wrap x25)) rfl (PO.conv us112 Tryz.underlying3 rfl) rfl (Tp (Iv (IntKind.i64.wrap (x24.At + (IntKind.i64.wrap x25)))) rfl (PO.add rfl rfl) rfl (Tp (.agg #[(Iv (IntKind.i64.wrap (x24.At + (IntKind.i64.wrap x25)))), (Iv 0), (Sv ⟨#[]⟩), (Iv 0)]) rfl (Bl (cl := [(Iv (IntKind.i64.wrap (x24.At + (IntKind.i64.wrap x25)))), (Iv 0), (Sv ⟨#[]⟩), (Iv 0)]) ze50 fp50 (Pc (Iv (IntKind.i64.wrap (x24.At + (IntKind.i64.wrap x25)))) rfl rfl Pz) rfl) rfl (Tp v0 rfl (Mv hs26_0) rfl (Tp (pt g23 0) rfl (Fa fo50_0 hs26_8 rfl) rfl ?_)))))))))))
 refine Tp (Iv x24.At) rfl (Lb 2 pl3 rfl rfl rfl) rfl (Tp (pt g23 0) rfl (Fa fo50_0 hs26_8 rfl) rfl (Tp (Iv x24.At) rfl (Lb 2 pl3 rfl rfl rfl) rfl (Tp (Uv x25) rfl (Mv hs26_9) rfl (Tp (Iv (IntKind.i64.wrap x25)) rfl (PO.conv us112 Tryz.underlying3 rfl) rfl (Tp (Iv (IntKind.i64.wrap (x24.At + (IntKind.i64.wrap x25)))) rfl (PO.add rfl rfl) rfl ?_)))))
 obtain ⟨hg70, h⟩ := grd_i h
 have h71 := h0.sub hg70.1 hg70.2.1 hg70.2.2
 refine Tp (slV v0 1 (x24.At).toNat (IntKind.i64.wrap (x24.At + (IntKind.i64.wrap x25))).toNat) rfl (PO.slice (n := a0.length) (l := (x24.At).toNat) (h := (IntKind.i64.wrap (x24.At + (IntKind.i64.wrap x25))).toNat) Tryz.underlying40 sz5 rfl h0.len h0.cap ⟨_, _, rfl, hg70.1, rfl⟩ ⟨_, _, rfl, (Int.le_trans hg70.1 hg70.2.1), rfl⟩ (Int.toNat_le_toNat hg70.2.1) (toNat_le_len hg70.2.2)) rfl (Ta rfl (Sg (v := (.agg #[(Iv (IntKind.i64.wrap (x24.At + (IntKind.i64.wrap x25)))), (Iv 0), (Sv ⟨#[]⟩), (Iv 0)])) (vl := [(Iv (IntKind.i64.wrap (x24.At + (IntKind.i64.wrap x25)))), (Iv 0), (Sv ⟨#[]⟩), (Iv 0)]) (arr' := [(Iv (IntKind.i64.wrap (x24.At + (IntKind.i64.wrap x25)))), (Iv 0), (Sv ⟨#[]⟩), (Iv 0)]) rfl sz50 hs26_6 rfl (onb rfl) rfl rfl rfl) rfl ?_ ?_)
 rintro _ _ _ - ⟨rfl, rfl⟩
 refine ⟨(Ss rfl (PO.slice (n := a0.length) (l := (x24.At).toNat) (h := (IntKind.i64.wrap (x24.At + (IntKind.i64.wrap x25))).toNat) Tryz.underlying40 sz5 rfl h0.len h0.cap ⟨_, _, rfl, hg70.1, rfl⟩ ⟨_, _, rfl, (Int.le_trans hg70.1 hg70.2.1), rfl⟩ (Int.toNat_le_toNat hg70.2.1) (toNat_le_len hg70.2.2)) rfl (Ss rfl (PO.add rfl rfl) rfl (Ss rfl (PO.conv us112 Tryz.underlying3 rfl) rfl (Ss rfl (Mv hs26_9) rfl (Ss rfl (Lb 2 pl3 rfl rfl rfl) rfl (Ss rfl (Fa fo50_0 hs26_8 rfl) rfl (Ss rfl (Lb 2 pl3 rfl rfl rfl) rfl (Ss rfl (Fa fo50_0 hs26_8 rfl) rfl (Ss rfl (Mv hs26_0) rfl (Sl rfl)))))))))), ?_⟩
 exact Tp (slV v0 1 (x24.At).toNat (IntKind.i64.wrap (x24.At + (IntKind.i64.wrap x25))).toNat) rfl (Ag rfl) rfl (Ti (Tc (Cr (Qa (Dr (Qa (Dr (Rd h [] (fun _ hs => hs.drop) (resultsLN rfl (RVs.cons (Rc (cs := [(Iv (IntKind.i64.wrap (x24.At + (IntKind.i64.wrap x25)))), (Iv 0), (Sv ⟨#[]⟩), (Iv 0)]) 0 ag50 sz50 hs26_6 rfl rfl) (RVs.cons (RV.tmp rfl) RVs.nil))) hle26 ⟨(slV v0 1 (x24.At).toNat (IntKind.i64.wrap (x24.At + (IntKind.i64.wrap x25))).toNat), rfl, rfl, h71⟩))))))))
 exact Tz

noncomputable def f_ref02_row_l0 (a0 : (List Int)) (a3 : Int) (x25 : Int) (s_ : ((List Int) × Int × Int × Int × ByteArray × Int)) : Option (((List Int) × Int × Int × Int × ByteArray × Int) ⊕ ((List Int) × Int × Int × ByteArray × Int)) :=
  match s_ with
  | (x70, x71, x72, x73, x74, x75) =>
    (((if (decide (x71 < x25)) = true then (some (decide (x73 = (0 : Int)))) else (some false)) : Option Bool).bind fun (x81 : Bool) => (if x81 = true then ((((f_ref02_above a3).bind fun (r90 : Int) => ((f_ref02_num a0 (⟨x72, x73, x74, x75⟩ : T_ref02_State) r90).bind fun (r96, r97) => (some (r96, r97)))) : Option (T_ref02_State × Int)).bind fun (x86, x87) => (grd (x70.length + [IntKind.i64.wrap x87].length ≤ 274877906944) (some (Sum.inl (x70 ++ [IntKind.i64.wrap x87], IntKind.u64.wrap (x71 + (1 : Int)), x86.At, x86.Code, x86.Op, x86.Where))))) else (some (Sum.inr (x70, x72, x73, x74, x75)))))
noncomputable def f_ref02_row (a0 : (List Int)) (a1 : T_ref02_State) (a2 : Int) (a3 : Int) : Option (T_ref02_State × (List Int)) :=
  ((((f_ref02_above a2).bind fun (r28 : Int) => ((f_ref02_num a0 a1 r28).bind fun (r34, r35) => (some (r34, r35)))) : Option (T_ref02_State × Int)).bind fun (x24, x25) => ((((iter (f_ref02_row_l0 a0 a3 x25) ([], (0 : Int), x24.At, x24.Code, x24.Op, x24.Where)).bind (fun (x76, x77, x78, x79, x80) => (some (x76, x77, x78, x79, x80)))) : Option ((List Int) × Int × Int × ByteArray × Int)).bind fun (x63, x64, x65, x66, x67) => (if (decide (x65 ≠ (0 : Int))) = true then (some ((⟨x64, x65, x66, x67⟩ : T_ref02_State), [])) else (some ((⟨x64, x65, x66, x67⟩ : T_ref02_State), x63)))))
def f_ref02_row_post (a0 : (List Int)) (a1 : T_ref02_State) (a2 : Int) (a3 : Int) (v0 : Value) : (T_ref02_State × (List Int)) → Value → IM → HL → Prop :=
  fun (p_ : (T_ref02_State × (List Int))) (v : Value) (M' : IM) (H' : HL) => match p_ with | (r0, r1) => ∃ vz1 cz1, (.tuple #[(.agg #[(.int .i64 r0.At), (.int .i64 r0.Code), (.string r0.Op), (.int .i64 r0.Where)]), vz1]) = v ∧ H' = [cz1] ∧ OwnS (Kd.int .i64) M' vz1 r1 cz1
theorem f_ref02_row_ok (a0 : (List Int)) (a1 : T_ref02_State) (a2 : Int) (a3 : Int) (M : IM) (v0 : Value) (h0 : RS (Kd.int .u8) M v0 a0) (res : (T_ref02_State × (List Int))) (h : f_ref02_row a0 a1 a2 a3 = some res) :
    Tri Tryz.prog 113 #[v0, (a50_ a1), (Iv a2), (Iv a3)] M [] (f_ref02_row_post a0 a1 a2 a3 v0 res) := by
 unfold f_ref02_row at h
 refine Te Tryz.func113 rfl rfl ?_
 intro F ρ hρ
 refine Sr (We (EO.box (cs := (l50 a1).toArray) (congrArg Value.cells (asE (a50_ a1) (hρ 1)))) rfl ?_)
 rintro _ _ _ - ⟨rfl, g21, rfl, rfl⟩
 refine We (Al ze50 rfl) rfl ?_
 rintro _ _ _ - ⟨rfl, g22, rfl, rfl⟩
 refine Pa Zs rfl rfl (Nt ?_)
 obtain ⟨j26, hj26, h⟩ := bnd h
 refine Jf (fun (p_ : (T_ref02_State × Int)) ρ' M' H' => match p_ with | (x24, x25) => ∃ g23, M.le M' ∧ [(g22, .cells z50_.toArray 50 (0, 0))] :: [(g21, .cells (l50 a1).toArray 50 (0, 0))] :: [(g23, .cells (l50 x24).toArray 50 (0, 0))] :: F = H' ∧ ρ' 0 = v0 ∧ ρ' 3 = (Iv a3) ∧ ρ' 8 = (pt g22 0) ∧ ρ' 10 = (pt g23 0) ∧ ρ' 11 = (Uv x25)) j26 ?_ ?_
 have h326 := h
 have h := hj26
 refine WC.draw [0, 0, 0, 4, 15, 31, 63, 63, 0, 383, 1023] (.pure 0 (.pure 1 (.pure 2 (.alt 3 (.alt 4 (.pure 5 (.pure 6 (.pure 7 (.alt 8 (.alt 9 (.pure 10 .done) .none) .none)))) (.alt 8 (.alt 4 (.pure 5 (.pure 6 (.pure 7 (.alt 9 (.pure 10 .done) .none)))) .none) .none)) (.alt 8 (.alt 3 (.alt 4 (.pure 5 (.pure 6 (.pure 7 (.alt 9 (.pure 10 .done) .none)))) .none) .none) .none))))) mixed (by kernel_rfl) (Tp v0 rfl (Mv (hρ 0)) rfl (Tp (a50_ a1) rfl (La (cs := (l50 a1)) 1 ag50 sz50 rfl rfl rfl) rfl (Tp (Iv a2) rfl (Mv (hρ 2)) rfl ?_)))
 have hk27 := h
 obtain ⟨r28, hr29, h⟩ := bnd h
 refine Ta rfl (Ca co111 (f_ref02_above_ok a2 _ r28 hr29) (args1 rfl)) rfl ?_ ?_
 rintro _ M30 _ hle31 ⟨_, ⟨rfl, rfl⟩, rfl⟩
 refine ⟨(Sk 1 rfl (Ss rfl (La (cs := (l50 a1)) 1 ag50 sz50 rfl rfl rfl) rfl (Ss rfl (Mv (hρ 0)) rfl trivial))), ?_⟩
 refine WT.a0 ?_
 have hk33 := h
 obtain ⟨⟨r34, r35⟩, hr36, h⟩ := bnd h
 have h0 := h0.mono hle31
 refine Ta rfl (Ca co110 (f_ref02_num_ok a0 a1 r28 _ _ h0 (r34, r35) hr36) (args3 rfl rfl rfl)) rfl ?_ ?_
 rintro _ M37 _ hle38 ⟨_, ⟨rfl, rfl⟩, rfl⟩
 refine ⟨(Sl rfl), ?_⟩
 refine WT.a0 (Tp (.tuple #[(a50_ r34), (Uv r35)]) rfl (Mv rfl) rfl (Tp (a50_ r34) rfl (Xt rfl rfl) rfl (Tp (Uv r35) rfl (Xt rfl rfl) rfl (Ta rfl (Al ze50 rfl) rfl ?_ ?_))))
 rintro _ _ _ - ⟨rfl, g41, rfl, rfl⟩
 refine ⟨(Ss rfl (Xt rfl rfl) rfl (Ss rfl (Xt rfl rfl) rfl (Ss rfl (Mv rfl) rfl (Ss rfl (Mv (hρ 2)) rfl (Ss rfl (La (cs := (l50 a1)) 2 ag50 sz50 rfl rfl rfl) rfl (Ss rfl (Mv (hρ 0)) rfl trivial)))))), ?_⟩
 refine Ta rfl (Sg (v := (a50_ r34)) (vl := (l50 r34)) (arr' := (l50 r34)) rfl sz50 rfl rfl (onb rfl) rfl rfl rfl) rfl ?_ ?_
 rintro _ _ _ - ⟨rfl, rfl⟩
 refine ⟨(Ss rfl (Xt rfl rfl) rfl (Sl rfl)), ?_⟩
 refine Tp (Uv r35) rfl (Ag rfl) rfl (Ti (Qb (Qb ?_)))
 obtain rfl := oi h
 exact Tj ⟨g41, (hle31.trans hle38), rfl, (hρ 0), (hρ 3), rfl, rfl, rfl⟩
 exact Tz
 exact Tz
 have h := hk33
 refine Ta rfl (Al ze50 rfl) rfl ?_ ?_
 rintro _ _ _ - ⟨rfl, g42, rfl, rfl⟩
 refine ⟨(Ss rfl (Mv (hρ 2)) rfl (Ss rfl (La (cs := (l50 a1)) 2 ag50 sz50 rfl rfl rfl) rfl (Ss rfl (Mv (hρ 0)) rfl trivial))), ?_⟩
 obtain ⟨⟨r43, r44⟩, hr45, h⟩ := bnd h
 refine Ta rfl (Ca co110 (f_ref02_num_ok a0 a1 r28 _ _ h0 (r43, r44) hr45) (args3 rfl rfl rfl)) rfl ?_ ?_
 rintro _ M46 _ hle47 ⟨_, ⟨rfl, rfl⟩, rfl⟩
 refine ⟨(Sl rfl), ?_⟩
 refine WT.a0 (Tp (.tuple #[(a50_ r43), (Uv r44)]) rfl (Mv rfl) rfl (Tp (a50_ r43) rfl (Xt rfl rfl) rfl (Tp (Uv r44) rfl (Xt rfl rfl) rfl (Ta rfl (Sg (v := (a50_ r43)) (vl := (l50 r43)) (arr' := (l50 r43)) rfl sz50 rfl rfl (onb rfl) rfl rfl rfl) rfl ?_ ?_))))
 rintro _ _ _ - ⟨rfl, rfl⟩
 refine ⟨(Ss rfl (Xt rfl rfl) rfl (Sl rfl)), ?_⟩
 refine Tp (Uv r44) rfl (Ag rfl) rfl (Ti (Qb (Qb ?_)))
 obtain rfl := oi h
 exact Tj ⟨g42, (hle31.trans hle47), rfl, (hρ 0), (hρ 3), rfl, rfl, rfl⟩
 exact Tz
 exact Tz
 exact Tz
 have h := hk27
 refine Ta rfl (Al ze50 rfl) rfl ?_ ?_
 rintro _ _ _ - ⟨rfl, g50, rfl, rfl⟩
 refine ⟨(Ss rfl (Mv (hρ 2)) rfl (Ss rfl (La (cs := (l50 a1)) 2 ag50 sz50 rfl rfl rfl) rfl (Ss rfl (Mv (hρ 0)) rfl trivial))), ?_⟩
 obtain ⟨r51, hr52, h⟩ := bnd h
 refine Ta rfl (Ca co111 (f_ref02_above_ok a2 _ r51 hr52) (args1 rfl)) rfl ?_ ?_
 rintro _ M53 _ hle54 ⟨_, ⟨rfl, rfl⟩, rfl⟩
 refine ⟨(Sk 1 rfl (Ss rfl (La (cs := (l50 a1)) 2 ag50 sz50 rfl rfl rfl) rfl (Ss rfl (Mv (hρ 0)) rfl trivial))), ?_⟩
 refine WT.a0 ?_
 obtain ⟨⟨r56, r57⟩, hr58, h⟩ := bnd h
 have h0 := h0.mono hle54
 refine Ta rfl (Ca co110 (f_ref02_num_ok a0 a1 r51 _ _ h0 (r56, r57) hr58) (args3 rfl rfl rfl)) rfl ?_ ?_
 rintro _ M59 _ hle60 ⟨_, ⟨rfl, rfl⟩, rfl⟩
 refine ⟨(Sl rfl), ?_⟩
 refine WT.a0 (Tp (.tuple #[(a50_ r56), (Uv r57)]) rfl (Mv rfl) rfl (Tp (a50_ r56) rfl (Xt rfl rfl) rfl (Tp (Uv r57) rfl (Xt rfl rfl) rfl (Ta rfl (Sg (v := (a50_ r56)) (vl := (l50 r56)) (arr' := (l50 r56)) rfl sz50 rfl rfl (onb rfl) rfl rfl rfl) rfl ?_ ?_))))
 rintro _ _ _ - ⟨rfl, rfl⟩
 refine ⟨(Ss rfl (Xt rfl rfl) rfl (Sl rfl)), ?_⟩
 refine Tp (Uv r57) rfl (Ag rfl) rfl (Ti (Qb (Qb ?_)))
 obtain rfl := oi h
 exact Tj ⟨g50, (hle54.trans hle60), rfl, (hρ 0), (hρ 3), rfl, rfl, rfl⟩
 exact Tz
 exact Tz
 exact Tz
 exact Tz
 obtain ⟨x24, x25⟩ := j26
 rintro ρ26 M26 H26 ⟨g23, hle26, rfl, hs26_0, hs26_3, hs26_8, hs26_10, hs26_11⟩
 refine Sr (Pa Zs rfl rfl (Nt ?_))
 obtain ⟨j68, hj68, h⟩ := bnd h
 refine Jf (fun (p_ : ((List Int) × Int × Int × ByteArray × Int)) ρ' M' H' => match p_ with | (x63, x64, x65, x66, x67) => ∃ vx63 cx63, M26.le M' ∧ [(g22, .cells z50_.toArray 50 (0, 0))] :: [(g21, .cells (l50 a1).toArray 50 (0, 0))] :: [(g23, .cells #[(Iv x64), (Iv x65), (Sv x66), (Iv x67)] 50 (0, 0))] :: cx63 :: F = H' ∧ ρ' 8 = (pt g22 0) ∧ ρ' 10 = (pt g23 0) ∧ ρ' 12 = vx63 ∧ OwnS (Kd.int .i64) M' vx63 x63 cx63) j68 ?_ ?_
 have h368 := h
 have h := hj68
 refine Sr (Pa (Uv 0) rfl rfl (Nt (Bk (WC.e0 (WC.f3 (WC.f3 (WC.f3 ?_)))))))
 obtain ⟨e69, he69, hK69⟩ := bnd h
 clear h
 refine WC.loop he69 (fun (p_ : ((List Int) × Int × Int × Int × ByteArray × Int)) ρ' M' H' => match p_ with | (x70, x71, x72, x73, x74, x75) => ∃ vx70 cx70, M26.le M' ∧ [(g22, .cells z50_.toArray 50 (0, 0))] :: [(g21, .cells (l50 a1).toArray 50 (0, 0))] :: [(g23, .cells #[(Iv x72), (Iv x73), (Sv x74), (Iv x75)] 50 (0, 0))] :: cx70 :: F = H' ∧ ρ' 0 = v0 ∧ ρ' 3 = (Iv a3) ∧ ρ' 8 = (pt g22 0) ∧ ρ' 10 = (pt g23 0) ∧ ρ' 11 = (Uv x25) ∧ ρ' 12 = vx70 ∧ ρ' 13 = (Uv x71) ∧ OwnS (Kd.int .i64) M' vx70 x70 cx70) ?_ ?_
 exact ⟨Zs, [], lr, rfl, hs26_0, hs26_3, hs26_8, hs26_10, hs26_11, rfl, rfl, (OwnS.nil _ _)⟩
 rintro ⟨x70, x71, x72, x73, x74, x75⟩ o69 ρ69 M69 H69 h ⟨vx70, cx70, hle69, rfl, hs69_0, hs69_3, hs69_8, hs69_10, hs69_11, hs69_12, hs69_13, hx70⟩
 unfold f_ref02_row_l0 at h
 refine Cs ?_
 obtain ⟨x81, hj82, h⟩ := bnd h
 refine Jf (fun (x81 : Bool) ρ' M' H' => M69.le M' ∧ [(g22, .cells z50_.toArray 50 (0, 0))] :: [(g21, .cells (l50 a1).toArray 50 (0, 0))] :: [(g23, .cells #[(Iv x72), (Iv x73), (Sv x74), (Iv x75)] 50 (0, 0))] :: cx70 :: F = H' ∧ ρ' 0 = v0 ∧ ρ' 3 = (Iv a3) ∧ ρ' 8 = (pt g22 0) ∧ ρ' 10 = (pt g23 0) ∧ ρ' 11 = (Uv x25) ∧ ρ' 12 = vx70 ∧ ρ' 13 = (Uv x71) ∧ ρ' 31 = (Bv x81)) x81 ?_ ?_
 have h382 := h
 have h := hj82
 refine Cg (Pm (Uv x71) hs69_13 rfl (Pm (Uv x25) hs69_11 rfl (Pu (Bv (decide (x71 < x25))) (PO.lss rfl rfl) rfl (Pm (Bv (decide (x71 < x25))) rfl rfl ?_))))
 rcases Bt (decide (x71 < x25)) with hb83 | hb83
 have h := ite_t hb83 h
 refine On 27 rfl rfl hb83 (Pu (pt g23 1) (Fa fo50_1 hs69_10 rfl) rfl (On 27 rfl rfl hb83 (Pu (Iv x73) (Lb 2 pl31 rfl rfl rfl) rfl (On 27 rfl rfl hb83 (Pu (Bv (decide (x73 = 0))) (PO.eql rfl rfl) rfl (Pu (Bv (decide (x73 = 0))) (Pt rfl hb83 rfl) rfl (Wz ?_)))))))
 obtain rfl := oi h
 exact Tj ⟨lr, rfl, hs69_0, hs69_3, hs69_8, hs69_10, hs69_11, hs69_12, hs69_13, rfl⟩
 have h := ite_f hb83 h
 iterate 3 refine Of 27 rfl rfl hb83 rfl ?_
 refine Pu (Bv false) (Pf rfl hb83 rfl) rfl (Wz ?_)
 obtain rfl := oi h
 exact Tj ⟨lr, rfl, hs69_0, hs69_3, hs69_8, hs69_10, hs69_11, hs69_12, hs69_13, rfl⟩
 rintro ρ82 M82 H82 ⟨hle82, rfl, hs82_0, hs82_3, hs82_8, hs82_10, hs82_11, hs82_12, hs82_13, hs82_31⟩
 refine Cd (b := x81) hs82_31 (fun hb84 => ?_) (fun hb84 => ?_)
 have h := ite_t hb84 h
 refine Ck (Tc (Cs (Bk ?_)))
 obtain ⟨j88, hj88, h⟩ := bnd h
 refine Jf (fun (p_ : (T_ref02_State × Int)) ρ' M' H' => match p_ with | (x86, x87) => ∃ g85, M82.le M' ∧ [(g22, .cells z50_.toArray 50 (0, 0))] :: [(g21, .cells (l50 a1).toArray 50 (0, 0))] :: [(g23, .cells #[(Iv x72), (Iv x73), (Sv x74), (Iv x75)] 50 (0, 0))] :: [(g85, .cells (l50 x86).toArray 50 (0, 0))] :: cx70 :: F = H' ∧ ρ' 0 = v0 ∧ ρ' 3 = (Iv a3) ∧ ρ' 8 = (pt g22 0) ∧ ρ' 10 = (pt g23 0) ∧ ρ' 11 = (Uv x25) ∧ ρ' 12 = vx70 ∧ ρ' 13 = (Uv x71) ∧ ρ' 14 = (pt g85 0) ∧ ρ' 15 = (Uv x87)) j88 ?_ ?_
 have h388 := h
 have h := hj88
 refine WC.draw [0, 0, 0, 4, 15, 31, 63, 63, 0, 383, 1023] (.pure 0 (.pure 1 (.pure 2 (.alt 3 (.alt 4 (.pure 5 (.pure 6 (.pure 7 (.alt 8 (.alt 9 (.pure 10 .done) .none) .none)))) (.alt 8 (.alt 4 (.pure 5 (.pure 6 (.pure 7 (.alt 9 (.pure 10 .done) .none)))) .none) .none)) (.alt 8 (.alt 3 (.alt 4 (.pure 5 (.pure 6 (.pure 7 (.alt 9 (.pure 10 .done) .none)))) .none) .none) .none))))) mixed (by kernel_rfl) (Tp v0 rfl (Mv hs82_0) rfl (Tp (.agg #[(Iv x72), (Iv x73), (Sv x74), (Iv x75)]) rfl (La (cs := [(Iv x72), (Iv x73), (Sv x74), (Iv x75)]) 2 ag50 sz50 hs82_10 rfl rfl) rfl (Tp (Iv a3) rfl (Mv hs82_3) rfl ?_)))
 have hk89 := h
 obtain ⟨r90, hr91, h⟩ := bnd h
 refine Ta rfl (Ca co111 (f_ref02_above_ok a3 _ r90 hr91) (args1 rfl)) rfl ?_ ?_
 rintro _ M92 _ hle93 ⟨_, ⟨rfl, rfl⟩, rfl⟩
 refine ⟨(Sk 1 rfl (Ss rfl (La (cs := [(Iv x72), (Iv x73), (Sv x74), (Iv x75)]) 2 ag50 sz50 hs82_10 rfl rfl) rfl (Ss rfl (Mv hs82_0) rfl trivial))), ?_⟩
 refine WT.a0 ?_
 have hk95 := h
 obtain ⟨⟨r96, r97⟩, hr98, h⟩ := bnd h
 have h0 := h0.mono (((hle26.trans hle69).trans hle82).trans hle93)
 refine Ta rfl (Ca co110 (f_ref02_num_ok a0 (⟨x72, x73, x74, x75⟩ : T_ref02_State) r90 _ _ h0 (r96, r97) hr98) (args3 rfl rfl rfl)) rfl ?_ ?_
 rintro _ M99 _ hle100 ⟨_, ⟨rfl, rfl⟩, rfl⟩
 refine ⟨(Sl rfl), ?_⟩
 refine WT.a0 (Tp (.tuple #[(a50_ r96), (Uv r97)]) rfl (Mv rfl) rfl (Tp (a50_ r96) rfl (Xt rfl rfl) rfl (Tp (Uv r97) rfl (Xt rfl rfl) rfl (Ta rfl (Al ze50 rfl) rfl ?_ ?_))))
 rintro _ _ _ - ⟨rfl, g103, rfl, rfl⟩
 refine ⟨(Ss rfl (Xt rfl rfl) rfl (Ss rfl (Xt rfl rfl) rfl (Ss rfl (Mv rfl) rfl (Ss rfl (Mv hs82_3) rfl (Ss rfl (La (cs := [(Iv x72), (Iv x73), (Sv x74), (Iv x75)]) 3 ag50 sz50 hs82_10 rfl rfl) rfl (Ss rfl (Mv hs82_0) rfl trivial)))))), ?_⟩
 refine Ta rfl (Sg (v := (a50_ r96)) (vl := (l50 r96)) (arr' := (l50 r96)) rfl sz50 rfl rfl (onb rfl) rfl rfl rfl) rfl ?_ ?_
 rintro _ _ _ - ⟨rfl, rfl⟩
 refine ⟨(Ss rfl (Xt rfl rfl) rfl (Sl rfl)), ?_⟩
 refine Tp (Uv r97) rfl (Ag rfl) rfl (Ti (WQ.f4 (Qa (WQ.f4 (WQ.f4 (WQ.f4 ?_))))))
 obtain rfl := oi h
 exact Tj ⟨g103, (hle93.trans hle100), rfl, hs82_0, hs82_3, hs82_8, hs82_10, hs82_11, hs82_12, hs82_13, rfl, rfl⟩
 exact Tz
 exact Tz
 have h := hk95
 refine Ta rfl (Al ze50 rfl) rfl ?_ ?_
 rintro _ _ _ - ⟨rfl, g104, rfl, rfl⟩
 refine ⟨(Ss rfl (Mv hs82_3) rfl (Ss rfl (La (cs := [(Iv x72), (Iv x73), (Sv x74), (Iv x75)]) 3 ag50 sz50 hs82_10 rfl rfl) rfl (Ss rfl (Mv hs82_0) rfl trivial))), ?_⟩
 obtain ⟨⟨r105, r106⟩, hr107, h⟩ := bnd h
 refine Ta rfl (Ca co110 (f_ref02_num_ok a0 (⟨x72, x73, x74, x75⟩ : T_ref02_State) r90 _ _ h0 (r105, r106) hr107) (args3 rfl rfl rfl)) rfl ?_ ?_
 rintro _ M108 _ hle109 ⟨_, ⟨rfl, rfl⟩, rfl⟩
 refine ⟨(Sl rfl), ?_⟩
 refine WT.a0 (Tp (.tuple #[(a50_ r105), (Uv r106)]) rfl (Mv rfl) rfl (Tp (a50_ r105) rfl (Xt rfl rfl) rfl (Tp (Uv r106) rfl (Xt rfl rfl) rfl (Ta rfl (Sg (v := (a50_ r105)) (vl := (l50 r105)) (arr' := (l50 r105)) rfl sz50 rfl rfl (onb rfl) rfl rfl rfl) rfl ?_ ?_))))
 rintro _ _ _ - ⟨rfl, rfl⟩
 refine ⟨(Ss rfl (Xt rfl rfl) rfl (Sl rfl)), ?_⟩
 refine Tp (Uv r106) rfl (Ag rfl) rfl (Ti (WQ.f4 (Qa (WQ.f4 (WQ.f4 (WQ.f4 ?_))))))
 obtain rfl := oi h
 exact Tj ⟨g104, (hle93.trans hle109), rfl, hs82_0, hs82_3, hs82_8, hs82_10, hs82_11, hs82_12, hs82_13, rfl, rfl⟩
 exact Tz
 exact Tz
 exact Tz
 have h := hk89
 refine Ta rfl (Al ze50 rfl) rfl ?_ ?_
 rintro _ _ _ - ⟨rfl, g112, rfl, rfl⟩
 refine ⟨(Ss rfl (Mv hs82_3) rfl (Ss rfl (La (cs := [(Iv x72), (Iv x73), (Sv x74), (Iv x75)]) 3 ag50 sz50 hs82_10 rfl rfl) rfl (Ss rfl (Mv hs82_0) rfl trivial))), ?_⟩
 obtain ⟨r113, hr114, h⟩ := bnd h
 refine Ta rfl (Ca co111 (f_ref02_above_ok a3 _ r113 hr114) (args1 rfl)) rfl ?_ ?_
 rintro _ M115 _ hle116 ⟨_, ⟨rfl, rfl⟩, rfl⟩
 refine ⟨(Sk 1 rfl (Ss rfl (La (cs := [(Iv x72), (Iv x73), (Sv x74), (Iv x75)]) 3 ag50 sz50 hs82_10 rfl rfl) rfl (Ss rfl (Mv hs82_0) rfl trivial))), ?_⟩
 refine WT.a0 ?_
 obtain ⟨⟨r118, r119⟩, hr120, h⟩ := bnd h
 have h0 := h0.mono (((hle26.trans hle69).trans hle82).trans hle116)
 refine Ta rfl (Ca co110 (f_ref02_num_ok a0 (⟨x72, x73, x74, x75⟩ : T_ref02_State) r113 _ _ h0 (r118, r119) hr120) (args3 rfl rfl rfl)) rfl ?_ ?_
 rintro _ M121 _ hle122 ⟨_, ⟨rfl, rfl⟩, rfl⟩
 refine ⟨(Sl rfl), ?_⟩
 refine WT.a0 (Tp (.tuple #[(a50_ r118), (Uv r119)]) rfl (Mv rfl) rfl (Tp (a50_ r118) rfl (Xt rfl rfl) rfl (Tp (Uv r119) rfl (Xt rfl rfl) rfl (Ta rfl (Sg (v := (a50_ r118)) (vl := (l50 r118)) (arr' := (l50 r118)) rfl sz50 rfl rfl (onb rfl) rfl rfl rfl) rfl ?_ ?_))))
 rintro _ _ _ - ⟨rfl, rfl⟩
 refine ⟨(Ss rfl (Xt rfl rfl) rfl (Sl rfl)), ?_⟩
 refine Tp (Uv r119) rfl (Ag rfl) rfl (Ti (WQ.f4 (Qa (WQ.f4 (WQ.f4 (WQ.f4 ?_))))))
 obtain rfl := oi h
 exact Tj ⟨g112, (hle116.trans hle122), rfl, hs82_0, hs82_3, hs82_8, hs82_10, hs82_11, hs82_12, hs82_13, rfl, rfl⟩
 exact Tz
 exact Tz
 exact Tz
 exact Tz
 obtain ⟨x86, x87⟩ := j88
 rintro ρ88 M88 H88 ⟨g85, hle88, rfl, hs88_0, hs88_3, hs88_8, hs88_10, hs88_11, hs88_12, hs88_13, hs88_14, hs88_15⟩
 refine Sr (Pu (a50_ x86) (La (cs := (l50 x86)) 3 ag50 sz50 hs88_14 rfl rfl) rfl (Wb (We (Sg (v := (a50_ x86)) (vl := (l50 x86)) (arr' := (l50 x86)) rfl sz50 hs88_10 rfl (onb rfl) rfl rfl rfl) rfl ?_)))
 rintro _ _ _ - ⟨rfl, rfl⟩
 refine Nt (Cg (Pm vx70 hs88_12 rfl (Pm (Uv x87) hs88_15 rfl (Pu (Iv (IntKind.i64.wrap x87)) (PO.conv us112 Tryz.underlying3 rfl) rfl (We (EO.buildSliceL (cl := [(Iv (IntKind.i64.wrap x87))]) Tryz.underlying65 iz3 rfl (Pc (Iv (IntKind.i64.wrap x87)) rfl rfl Pz) rfl) rfl ?_)))))
 rintro _ _ _ - ⟨rfl, g125, rfl, rfl⟩
 have h127 : OwnS (Kd.int .i64) M88 (.slice (some ⟨g125, 0, none⟩) 1 1) [IntKind.i64.wrap x87] [(g125, .cells #[(Iv (IntKind.i64.wrap x87))] 3 (0, 0))] := OwnS.rows (css := [[(Iv (IntKind.i64.wrap x87))]]) (Rows.cons rfl Rows.nil) rfl rfl
 obtain ⟨hg131, h⟩ := grd_i h
 refine WL.f5 ?_
 have hx70 := hx70.mono (hle82.trans hle88)
 refine We (EO.append (dd := (Kd.int .i64)) (xs := x70) (ys := [IntKind.i64.wrap x87]) Tryz.underlying65 Tryz.underlying65 in3 rfl (appB (by decide) hg131) (by decide) rfl rfl hx70 (h127.src 1 rfl)) rfl ?_
 rintro v130 _ _ - ⟨rfl, c128, rfl, h129⟩
 refine Pa v130 rfl rfl (Wz (Bn (Tc (Cg (Pm (Uv x71) hs88_13 rfl (Pu (Uv (IntKind.u64.wrap (x71 + 1))) (PO.add rfl rfl) rfl (Pa (Uv (IntKind.u64.wrap (x71 + 1))) rfl rfl (Wz (Qa (Dr (WQ.f4 ?_)))))))))))
 exact Dr (Qa (WQ.f3 (WQ.f3 (WQ.again (x70 ++ [IntKind.i64.wrap x87], IntKind.u64.wrap (x71 + 1), x86.At, x86.Code, x86.Op, x86.Where) (oi h).symm ⟨v130, c128, ((hle69.trans hle82).trans hle88), rfl, hs88_0, hs88_3, hs88_8, hs88_10, hs88_11, rfl, rfl, h129⟩))))
 have h := ite_f hb84 h
 refine WC.exit (WQ.thenE (WQ.leaveE (x70, x72, x73, x74, x75) (oi h).symm (fun heq69 => ?_)))
 subst heq69
 have h := hK69
 refine WQ.blockH ?_
 obtain rfl := oi h
 refine Tj ?_
 have hx70 := hx70.mono hle82
 exact ⟨vx70, cx70, (hle69.trans hle82), rfl, hs82_8, hs82_10, hs82_12, hx70⟩
 obtain ⟨x63, x64, x65, x66, x67⟩ := j68
 rintro ρ68 M68 H68 ⟨vx63, cx63, hle68, rfl, hs68_8, hs68_10, hs68_12, hx63⟩
 refine Cs (Sr (Pu (pt g23 1) (Fa fo50_1 hs68_10 rfl) rfl (Pu (Iv x65) (Lb 2 pl31 rfl rfl rfl) rfl (Pu (Bv (decide (x65 ≠ 0))) (PO.neq rfl rfl) rfl (Nt (Cd (b := decide (x65 ≠ 0)) rfl (fun hb133 => ?_) (fun hb133 => ?_)))))))
 have h := ite_t hb133 h
 refine Sr (Pu (.agg #[(Iv x64), (Iv x65), (Sv x66), (Iv x67)]) (La (cs := [(Iv x64), (Iv x65), (Sv x66), (Iv x67)]) 2 ag50 sz50 hs68_10 rfl rfl) rfl (We (Sg (v := (.agg #[(Iv x64), (Iv x65), (Sv x66), (Iv x67)])) (vl := [(Iv x64), (Iv x65), (Sv x66), (Iv x67)]) (arr' := [(Iv x64), (Iv x65), (Sv x66), (Iv x67)]) rfl sz50 hs68_8 rfl (onb rfl) rfl rfl rfl) rfl ?_))
 rintro _ _ _ - ⟨rfl, rfl⟩
 refine Pa Zs rfl rfl (Nt (Cr (Tr (WQ.e0 (Qb (Dr (Qb (Dr (Qb (Dr (Qa ?_)))))))))))
 exact Rd h [[]] (fun _ hs => hs.drop) (resultsLN rfl (RVs.cons (Rc (cs := [(Iv x64), (Iv x65), (Sv x66), (Iv x67)]) 0 ag50 sz50 hs68_8 rfl rfl) (RVs.cons (RV.tmp rfl) RVs.nil))) (hle26.trans hle68) ⟨Zs, [], rfl, rfl, (OwnS.nil _ _)⟩
 have h := ite_f hb133 h
 refine Ck (Tc (Sr (Pu (.agg #[(Iv x64), (Iv x65), (Sv x66), (Iv x67)]) (La (cs := [(Iv x64), (Iv x65), (Sv x66), (Iv x67)]) 2 ag50 sz50 hs68_10 rfl rfl) rfl (Pm vx63 hs68_12 rfl (We (Sg (v := (.agg #[(Iv x64), (Iv x65), (Sv x66), (Iv x67)])) (vl := [(Iv x64), (Iv x65), (Sv x66), (Iv x67)]) (arr' := [(Iv x64), (Iv x65), (Sv x66), (Iv x67)]) rfl sz50 hs68_8 rfl (onb rfl) rfl rfl rfl) rfl ?_)))))
 rintro _ _ _ - ⟨rfl, rfl⟩
 exact Pa vx63 rfl rfl (Nt (Cr (Qa (Dr (Qa (Dr (Rd h [cx63] (fun _ hs => hs.drop) (resultsLN rfl (RVs.cons (Rc (cs := [(Iv x64), (Iv x65), (Sv x66), (Iv x67)]) 0 ag50 sz50 hs68_8 rfl rfl) (RVs.cons (RV.tmp rfl) RVs.nil))) (hle26.trans hle68) ⟨vx63, cx63, rfl, rfl, hx63⟩)))))))

noncomputable def f_ref02_Read (a0 : (List Int)) (a1 : T_ref02_State) (a2 : T_ref02_Ask) : Option (T_ref02_State × T_ref02_Got) :=
  (if (decide (a1.Code ≠ (0 : Int))) = true then (some (a1, (⟨(0 : Int), false, [], []⟩ : T_ref02_Got))) else (((if (decide (a2.Kind = (0 : Int))) = true then (some (decide (a2.Kind = (0 : Int)))) else (some (decide (a2.Kind = (1 : Int))))) : Option Bool).bind fun (x27 : Bool) => (if x27 = true then ((((f_ref02_above a2.Most).bind fun (r36 : Int) => ((f_ref02_num a0 a1 r36).bind fun (r42, r43) => (some (r42, r43)))) : Option (T_ref02_State × Int)).bind fun (x32, x33) => (some (x32, (⟨x33, false, [], []⟩ : T_ref02_Got)))) else (if (decide (a2.Kind = (2 : Int))) = true then (if (decide ((a0.length : Int) ≤ a1.At)) = true then ((f_ref02_bad a1 (⟨#[102, 108, 97, 103]⟩ : ByteArray) a1.At (3 : Int)).bind fun (r74 : T_ref02_State) => (some (r74, (⟨(0 : Int), false, [], []⟩ : T_ref02_Got)))) else (grd (0 ≤ a1.At ∧ a1.At < a0.length) (if (decide ((1 : Int) < (rd a0 a1.At))) = true then ((f_ref02_bad a1 (⟨#[102, 108, 97, 103]⟩ : ByteArray) a1.At (5 : Int)).bind fun (r88 : T_ref02_State) => (some (r88, (⟨(0 : Int), false, [], []⟩ : T_ref02_Got)))) else (grd (0 ≤ a1.At ∧ a1.At < a0.length) (some ((⟨IntKind.i64.wrap (a1.At + (1 : Int)), (0 : Int), (⟨#[]⟩ : ByteArray), (0 : Int)⟩ : T_ref02_State), (⟨(0 : Int), decide ((rd a0 a1.At) = (1 : Int)), [], []⟩ : T_ref02_Got))))))) else (if (decide (a2.Kind = (3 : Int))) = true then ((f_ref02_text a0 a1 a2.Most).bind fun (r103, r104) => (some (r103, (⟨(0 : Int), false, r104, []⟩ : T_ref02_Got)))) else ((f_ref02_row a0 a1 a2.Most a2.Each).bind fun (r112, r113) => (some (r112, (⟨(0 : Int), false, [], r113⟩ : T_ref02_Got)))))))))
def f_ref02_Read_post (a0 : (List Int)) (a1 : T_ref02_State) (a2 : T_ref02_Ask) (v0 : Value) : (T_ref02_State × T_ref02_Got) → Value → IM → HL → Prop :=
  fun (p_ : (T_ref02_State × T_ref02_Got)) (v : Value) (M' : IM) (H' : HL) => match p_ with | (r0, r1) => ∃ vz1_2 vz1_3 cz1_3, (.tuple #[(.agg #[(.int .i64 r0.At), (.int .i64 r0.Code), (.string r0.Op), (.int .i64 r0.Where)]), (.agg #[(.int .u64 r1.Num), (.bool r1.Flag), vz1_2, vz1_3])]) = v ∧ H' = [cz1_3] ∧ RS (Kd.int .u8) M' vz1_2 r1.Text ∧ OwnS (Kd.int .i64) M' vz1_3 r1.Row cz1_3
theorem f_ref02_Read_ok (a0 : (List Int)) (a1 : T_ref02_State) (a2 : T_ref02_Ask) (M : IM) (v0 : Value) (h0 : RS (Kd.int .u8) M v0 a0) (res : (T_ref02_State × T_ref02_Got)) (h : f_ref02_Read a0 a1 a2 = some res) :
    Tri Tryz.prog 87 #[v0, (a50_ a1), (a132_ a2)] M [] (f_ref02_Read_post a0 a1 a2 v0 res) := by
 unfold f_ref02_Read at h
 refine Te Tryz.func87 rfl rfl ?_
 intro F ρ hρ
 refine Sr (We (EO.box (cs := (l50 a1).toArray) (congrArg Value.cells (asE (a50_ a1) (hρ 1)))) rfl ?_)
 rintro _ _ _ - ⟨rfl, g21, rfl, rfl⟩
 refine We (EO.box (cs := (l132 a2).toArray) (congrArg Value.cells (asE (a132_ a2) (hρ 2)))) rfl ?_
 rintro _ _ _ - ⟨rfl, g22, rfl, rfl⟩
 refine We (Al ze50 rfl) rfl ?_
 rintro _ _ _ - ⟨rfl, g23, rfl, rfl⟩
 refine We (Al ze128 rfl) rfl ?_
 rintro _ _ _ - ⟨rfl, g24, rfl, rfl⟩
 refine Nt (Cs (Sr (Pu (pt g21 1) (Fa fo50_1 rfl rfl) rfl (Pu (Iv a1.Code) (Lb 3 pl31 rfl rfl rfl) rfl (Pu (Bv (decide (a1.Code ≠ 0))) (PO.neq rfl rfl) rfl (Nt (Cd (b := decide (a1.Code ≠ 0)) rfl (fun hb25 => ?_) (fun hb25 => ?_))))))))
 have h := ite_t hb25 h
 refine Sr (Pu (a50_ a1) (La (cs := (l50 a1)) 3 ag50 sz50 rfl rfl rfl) rfl (Pu (.agg #[(Uv 0), (Bv false), Zs, Zs]) (Bl (cl := [(Uv 0), (Bv false), Zs, Zs]) ze128 fp128 Pz rfl) rfl (WL.f1 (We (Sg (v := (a50_ a1)) (vl := (l50 a1)) (arr' := (l50 a1)) rfl sz50 rfl rfl (onb rfl) rfl rfl rfl) rfl ?_))))
 rintro _ _ _ - ⟨rfl, rfl⟩
 refine WL.f1 (We (Sg (v := (.agg #[(Uv 0), (Bv false), Zs, Zs])) (vl := [(Uv 0), (Bv false), Zs, Zs]) (arr' := [(Uv 0), (Bv false), Zs, Zs]) rfl sz128 rfl rfl (onb rfl) rfl rfl rfl) rfl ?_)
 rintro _ _ _ - ⟨rfl, rfl⟩
 exact Nt (Cr (Tr (WQ.e0 (WQ.f3 (Dr (WQ.f3 (Dr (Qa (Qb (Rd h [[]] (fun _ hs => hs.drop.drop) (resultsLN rfl (RVs.cons (Rc (cs := (l50 a1)) 0 ag50 sz50 rfl rfl rfl) (RVs.cons (Rc (cs := [(Uv 0), (Bv false), Zs, Zs]) 1 ag128 sz128 rfl rfl rfl) RVs.nil))) lr ⟨Zs, Zs, [], rfl, rfl, RS.nil _ _, (OwnS.nil _ _)⟩))))))))))
 have h := ite_f hb25 h
 refine Ck (Tc (Cs (Sr (Pu (pt g22 0) (Fa fo132_0 rfl rfl) rfl (Pu (Iv a2.Kind) (Lb 2 pl3 rfl rfl rfl) rfl (Nt (Bk ?_)))))))
 obtain ⟨x27, hj28, h⟩ := bnd h
 refine Jf (fun (x27 : Bool) ρ' M' H' => M.le M' ∧ [(g24, .cells #[(Uv 0), (Bv false), Zs, Zs] 128 (0, 0))] :: [(g23, .cells z50_.toArray 50 (0, 0))] :: [(g22, .cells (l132 a2).toArray 132 (0, 0))] :: [(g21, .cells (l50 a1).toArray 50 (0, 0))] :: F = H' ∧ ρ' 0 = v0 ∧ ρ' 4 = (pt g21 0) ∧ ρ' 5 = (pt g22 0) ∧ ρ' 6 = (pt g23 0) ∧ ρ' 7 = (pt g24 0) ∧ ρ' 20 = (Iv a2.Kind) ∧ ρ' 21 = (Bv x27)) x27 ?_ ?_
 have h328 := h
 have h := hj28
 refine Sr (Pu (Bv (decide (a2.Kind = 0))) (PO.eql rfl rfl) rfl (Pa (Bv (decide (a2.Kind = 0))) rfl rfl (Nt (Cd (b := decide (a2.Kind = 0)) rfl (fun hb29 => ?_) (fun hb29 => ?_)))))
 have h := ite_t hb29 h
 refine Ck ?_
 obtain rfl := oi h
 exact Tj ⟨lr, rfl, (hρ 0), rfl, rfl, rfl, rfl, rfl, rfl⟩
 have h := ite_f hb29 h
 refine Cg (Pu (Bv (decide (a2.Kind = 1))) (PO.eql rfl rfl) rfl (Pa (Bv (decide (a2.Kind = 1))) rfl rfl (Wz ?_)))
 obtain rfl := oi h
 exact Tj ⟨lr, rfl, (hρ 0), rfl, rfl, rfl, rfl, rfl, rfl⟩
 rintro ρ28 M28 H28 ⟨hle28, rfl, hs28_0, hs28_4, hs28_5, hs28_6, hs28_7, hs28_20, hs28_21⟩
 refine Cd (b := x27) hs28_21 (fun hb30 => ?_) (fun hb30 => ?_)
 have h := ite_t hb30 h
 obtain ⟨j34, hj34, h⟩ := bnd h
 refine Jf (fun (p_ : (T_ref02_State × Int)) ρ' M' H' => match p_ with | (x32, x33) => ∃ g31, M28.le M' ∧ [(g24, .cells #[(Uv 0), (Bv false), Zs, Zs] 128 (0, 0))] :: [(g23, .cells z50_.toArray 50 (0, 0))] :: [(g22, .cells (l132 a2).toArray 132 (0, 0))] :: [(g21, .cells (l50 a1).toArray 50 (0, 0))] :: [(g31, .cells (l50 x32).toArray 50 (0, 0))] :: F = H' ∧ ρ' 6 = (pt g23 0) ∧ ρ' 7 = (pt g24 0) ∧ ρ' 8 = (pt g31 0) ∧ ρ' 9 = (Uv x33)) j34 ?_ ?_
 have h334 := h
 have h := hj34
 refine WC.draw [0, 0, 0, 4, 12, 31, 63, 127, 127, 0, 767, 2047] (.pure 0 (.pure 1 (.pure 2 (.pure 3 (.alt 4 (.alt 5 (.pure 6 (.pure 7 (.pure 8 (.alt 9 (.alt 10 (.pure 11 .done) .none) .none)))) (.alt 9 (.alt 5 (.pure 6 (.pure 7 (.pure 8 (.alt 10 (.pure 11 .done) .none)))) .none) .none)) (.alt 9 (.alt 4 (.alt 5 (.pure 6 (.pure 7 (.pure 8 (.alt 10 (.pure 11 .done) .none)))) .none) .none) .none)))))) mixed (by kernel_rfl) (Tp v0 rfl (Mv hs28_0) rfl (Tp (a50_ a1) rfl (La (cs := (l50 a1)) 3 ag50 sz50 hs28_4 rfl rfl) rfl (Tp (pt g22 1) rfl (Fa fo132_1 hs28_5 rfl) rfl (Tp (Iv a2.Most) rfl (Lb 2 pl3 rfl rfl rfl) rfl ?_))))
 have hk35 := h
 obtain ⟨r36, hr37, h⟩ := bnd h
 refine Ta rfl (Ca co111 (f_ref02_above_ok a2.Most _ r36 hr37) (args1 rfl)) rfl ?_ ?_
 rintro _ M38 _ hle39 ⟨_, ⟨rfl, rfl⟩, rfl⟩
 refine ⟨(Sk 2 rfl (Ss rfl (La (cs := (l50 a1)) 3 ag50 sz50 hs28_4 rfl rfl) rfl (Ss rfl (Mv hs28_0) rfl trivial))), ?_⟩
 refine WT.a0 ?_
 have hk41 := h
 obtain ⟨⟨r42, r43⟩, hr44, h⟩ := bnd h
 have h0 := h0.mono (hle28.trans hle39)
 refine Ta rfl (Ca co110 (f_ref02_num_ok a0 a1 r36 _ _ h0 (r42, r43) hr44) (args3 rfl rfl rfl)) rfl ?_ ?_
 rintro _ M45 _ hle46 ⟨_, ⟨rfl, rfl⟩, rfl⟩
 refine ⟨(Sl rfl), ?_⟩
 refine WT.a0 (Tp (.tuple #[(a50_ r42), (Uv r43)]) rfl (Mv rfl) rfl (Tp (a50_ r42) rfl (Xt rfl rfl) rfl (Tp (Uv r43) rfl (Xt rfl rfl) rfl (Ta rfl (Al ze50 rfl) rfl ?_ ?_))))
 rintro _ _ _ - ⟨rfl, g49, rfl, rfl⟩
 refine ⟨(Ss rfl (Xt rfl rfl) rfl (Ss rfl (Xt rfl rfl) rfl (Ss rfl (Mv rfl) rfl (Ss rfl (Lb 3 pl3 rfl rfl rfl) rfl (Ss rfl (Fa fo132_1 hs28_5 rfl) rfl (Ss rfl (La (cs := (l50 a1)) 4 ag50 sz50 hs28_4 rfl rfl) rfl (Ss rfl (Mv hs28_0) rfl trivial))))))), ?_⟩
 refine Ta rfl (Sg (v := (a50_ r42)) (vl := (l50 r42)) (arr' := (l50 r42)) rfl sz50 rfl rfl (onb rfl) rfl rfl rfl) rfl ?_ ?_
 rintro _ _ _ - ⟨rfl, rfl⟩
 refine ⟨(Ss rfl (Xt rfl rfl) rfl (Sl rfl)), ?_⟩
 refine Tp (Uv r43) rfl (Ag rfl) rfl (Ti (WQ.f4 (WQ.f4 (WQ.f4 (WQ.f4 ?_)))))
 obtain rfl := oi h
 exact Tj ⟨g49, (hle39.trans hle46), rfl, hs28_6, hs28_7, rfl, rfl⟩
 exact Tz
 exact Tz
 have h := hk41
 refine Ta rfl (Al ze50 rfl) rfl ?_ ?_
 rintro _ _ _ - ⟨rfl, g50, rfl, rfl⟩
 refine ⟨(Ss rfl (Lb 3 pl3 rfl rfl rfl) rfl (Ss rfl (Fa fo132_1 hs28_5 rfl) rfl (Ss rfl (La (cs := (l50 a1)) 4 ag50 sz50 hs28_4 rfl rfl) rfl (Ss rfl (Mv hs28_0) rfl trivial)))), ?_⟩
 obtain ⟨⟨r51, r52⟩, hr53, h⟩ := bnd h
 refine Ta rfl (Ca co110 (f_ref02_num_ok a0 a1 r36 _ _ h0 (r51, r52) hr53) (args3 rfl rfl rfl)) rfl ?_ ?_
 rintro _ M54 _ hle55 ⟨_, ⟨rfl, rfl⟩, rfl⟩
 refine ⟨(Sl rfl), ?_⟩
 refine WT.a0 (Tp (.tuple #[(a50_ r51), (Uv r52)]) rfl (Mv rfl) rfl (Tp (a50_ r51) rfl (Xt rfl rfl) rfl (Tp (Uv r52) rfl (Xt rfl rfl) rfl (Ta rfl (Sg (v := (a50_ r51)) (vl := (l50 r51)) (arr' := (l50 r51)) rfl sz50 rfl rfl (onb rfl) rfl rfl rfl) rfl ?_ ?_))))
 rintro _ _ _ - ⟨rfl, rfl⟩
 refine ⟨(Ss rfl (Xt rfl rfl) rfl (Sl rfl)), ?_⟩
 refine Tp (Uv r52) rfl (Ag rfl) rfl (Ti (WQ.f4 (WQ.f4 (WQ.f4 (WQ.f4 ?_)))))
 obtain rfl := oi h
 exact Tj ⟨g50, (hle39.trans hle55), rfl, hs28_6, hs28_7, rfl, rfl⟩
 exact Tz
 exact Tz
 exact Tz
 have h := hk35
 refine Ta rfl (Al ze50 rfl) rfl ?_ ?_
 rintro _ _ _ - ⟨rfl, g58, rfl, rfl⟩
 refine ⟨(Ss rfl (Lb 3 pl3 rfl rfl rfl) rfl (Ss rfl (Fa fo132_1 hs28_5 rfl) rfl (Ss rfl (La (cs := (l50 a1)) 4 ag50 sz50 hs28_4 rfl rfl) rfl (Ss rfl (Mv hs28_0) rfl trivial)))), ?_⟩
 obtain ⟨r59, hr60, h⟩ := bnd h
 refine Ta rfl (Ca co111 (f_ref02_above_ok a2.Most _ r59 hr60) (args1 rfl)) rfl ?_ ?_
 rintro _ M61 _ hle62 ⟨_, ⟨rfl, rfl⟩, rfl⟩
 refine ⟨(Sk 2 rfl (Ss rfl (La (cs := (l50 a1)) 4 ag50 sz50 hs28_4 rfl rfl) rfl (Ss rfl (Mv hs28_0) rfl trivial))), ?_⟩
 refine WT.a0 ?_
 obtain ⟨⟨r64, r65⟩, hr66, h⟩ := bnd h
 have h0 := h0.mono (hle28.trans hle62)
 refine Ta rfl (Ca co110 (f_ref02_num_ok a0 a1 r59 _ _ h0 (r64, r65) hr66) (args3 rfl rfl rfl)) rfl ?_ ?_
 rintro _ M67 _ hle68 ⟨_, ⟨rfl, rfl⟩, rfl⟩
 refine ⟨(Sl rfl), ?_⟩
 refine WT.a0 (Tp (.tuple #[(a50_ r64), (Uv r65)]) rfl (Mv rfl) rfl (Tp (a50_ r64) rfl (Xt rfl rfl) rfl (Tp (Uv r65) rfl (Xt rfl rfl) rfl (Ta rfl (Sg (v := (a50_ r64)) (vl := (l50 r64)) (arr' := (l50 r64)) rfl sz50 rfl rfl (onb rfl) rfl rfl rfl) rfl ?_ ?_))))
 rintro _ _ _ - ⟨rfl, rfl⟩
 refine ⟨(Ss rfl (Xt rfl rfl) rfl (Sl rfl)), ?_⟩
 refine Tp (Uv r65) rfl (Ag rfl) rfl (Ti (WQ.f4 (WQ.f4 (WQ.f4 (WQ.f4 ?_)))))
 obtain rfl := oi h
 exact Tj ⟨g58, (hle62.trans hle68), rfl, hs28_6, hs28_7, rfl, rfl⟩
 exact Tz
 exact Tz
 exact Tz
 exact Tz
 obtain ⟨x32, x33⟩ := j34
 rintro ρ34 M34 H34 ⟨g31, hle34, rfl, hs34_6, hs34_7, hs34_8, hs34_9⟩
 refine Sr (Pu (a50_ x32) (La (cs := (l50 x32)) 4 ag50 sz50 hs34_8 rfl rfl) rfl (Pm (Uv x33) hs34_9 rfl (Pu (.agg #[(Uv x33), (Bv false), Zs, Zs]) (Bl (cl := [(Uv x33), (Bv false), Zs, Zs]) ze128 fp128 (Pc (Uv x33) rfl rfl Pz) rfl) rfl (WL.f1 (We (Sg (v := (a50_ x32)) (vl := (l50 x32)) (arr' := (l50 x32)) rfl sz50 hs34_6 rfl (onb rfl) rfl rfl rfl) rfl ?_)))))
 rintro _ _ _ - ⟨rfl, rfl⟩
 refine WL.f1 (We (Sg (v := (.agg #[(Uv x33), (Bv false), Zs, Zs])) (vl := [(Uv x33), (Bv false), Zs, Zs]) (arr' := [(Uv x33), (Bv false), Zs, Zs]) rfl sz128 hs34_7 rfl (onb rfl) rfl rfl rfl) rfl ?_)
 rintro _ _ _ - ⟨rfl, rfl⟩
 refine Nt (Cr (Br (Tr (WQ.e0 (WQ.f3 (Dr (WQ.f3 (Dr (WQ.f3 (Dr (Qa ?_)))))))))))
 exact Qb (Rd h [[]] (fun _ hs => hs.drop.drop) (resultsLN rfl (RVs.cons (Rc (cs := (l50 x32)) 0 ag50 sz50 hs34_6 rfl rfl) (RVs.cons (Rc (cs := [(Uv x33), (Bv false), Zs, Zs]) 1 ag128 sz128 hs34_7 rfl rfl) RVs.nil))) (hle28.trans hle34) ⟨Zs, Zs, [], rfl, rfl, RS.nil _ _, (OwnS.nil _ _)⟩)
 have h := ite_f hb30 h
 refine Sr (Pu (Bv (decide (a2.Kind = 2))) (PO.eql hs28_20 rfl) rfl (Pa (Bv (decide (a2.Kind = 2))) rfl rfl (Nt (Cd (b := decide (a2.Kind = 2)) rfl (fun hb72 => ?_) (fun hb72 => ?_)))))
 have h := ite_t hb72 h
 refine Cs (Sr (Pu (pt g21 0) (Fa fo50_0 hs28_4 rfl) rfl (Pu (Iv a1.At) (Lb 3 pl3 rfl rfl rfl) rfl (Pm v0 hs28_0 rfl ?_))))
 have h0 := h0.mono hle28
 refine Pu (Iv (a0.length : Int)) (PO.lenS Tryz.underlying40 rfl h0.len) rfl (Pu (Bv (decide ((a0.length : Int) ≤ a1.At))) (PO.geq rfl rfl) rfl (Nt (Cd (b := decide ((a0.length : Int) ≤ a1.At)) rfl (fun hb73 => ?_) (fun hb73 => ?_))))
 have h := ite_t hb73 h
 refine Sr (Pu (a50_ a1) (La (cs := (l50 a1)) 3 ag50 sz50 hs28_4 rfl rfl) rfl (Pu (pt g21 0) (Fa fo50_0 hs28_4 rfl) rfl (Pu (Iv a1.At) (Lb 3 pl3 rfl rfl rfl) rfl ?_)))
 obtain ⟨r74, hr75, h⟩ := bnd h
 refine We (Ca co107 (f_ref02_bad_ok a1 (⟨#[102, 108, 97, 103]⟩ : ByteArray) a1.At (3 : Int) _ r74 hr75) (args4 rfl rfl rfl rfl)) rfl ?_
 rintro _ M76 _ hle77 ⟨_, ⟨rfl, rfl⟩, rfl⟩
 refine WL.a0 (Pu (.agg #[(Uv 0), (Bv false), Zs, Zs]) (Bl (cl := [(Uv 0), (Bv false), Zs, Zs]) ze128 fp128 Pz rfl) rfl (WL.f1 (We (Sg (v := (a50_ r74)) (vl := (l50 r74)) (arr' := (l50 r74)) rfl sz50 hs28_6 rfl (onb rfl) rfl rfl rfl) rfl ?_)))
 rintro _ _ _ - ⟨rfl, rfl⟩
 refine WL.f1 (We (Sg (v := (.agg #[(Uv 0), (Bv false), Zs, Zs])) (vl := [(Uv 0), (Bv false), Zs, Zs]) (arr' := [(Uv 0), (Bv false), Zs, Zs]) rfl sz128 hs28_7 rfl (onb rfl) rfl rfl rfl) rfl ?_)
 rintro _ _ _ - ⟨rfl, rfl⟩
 refine Nt (Cr (Tr (Br (Tr (WQ.e0 (WQ.f3 (Dr (WQ.f3 (Dr (Qa (Qb ?_)))))))))))
 exact Rd h [[]] (fun _ hs => hs.drop.drop) (resultsLN rfl (RVs.cons (Rc (cs := (l50 r74)) 0 ag50 sz50 hs28_6 rfl rfl) (RVs.cons (Rc (cs := [(Uv 0), (Bv false), Zs, Zs]) 1 ag128 sz128 hs28_7 rfl rfl) RVs.nil))) (hle28.trans hle77) ⟨Zs, Zs, [], rfl, rfl, RS.nil _ _, (OwnS.nil _ _)⟩
 have h := ite_f hb73 h
 refine Ck (Tc (Cs (Sr (Pm v0 hs28_0 rfl (Pu (pt g21 0) (Fa fo50_0 hs28_4 rfl) rfl (Pu (Iv a1.At) (Lb 3 pl3 rfl rfl rfl) rfl ?_))))))
 obtain ⟨hg80, h⟩ := grd_i h
 obtain ⟨p81, cs82, hat83, hrc84, hhas85⟩ := h0.at hg80.1 hg80.2 (by decide)
 obtain rfl := hrc84
 refine Pu (.pointer (some p81)) (PO.indexAddr (n := a0.length) Tryz.underlying40 sz5 rfl rfl hg80.1 hg80.2 hat83) rfl (Pu (Yv (rd a0 a1.At)) (PO.loadM pl5 rfl (IM.has0 hhas85)) rfl (Pu (Bv (decide ((1 : Int) < (rd a0 a1.At)))) (PO.gtr rfl rfl) rfl (Nt (Cd (b := decide ((1 : Int) < (rd a0 a1.At))) rfl (fun hb87 => ?_) (fun hb87 => ?_)))))
 have h := ite_t hb87 h
 refine Sr (Pu (a50_ a1) (La (cs := (l50 a1)) 3 ag50 sz50 hs28_4 rfl rfl) rfl (Pu (pt g21 0) (Fa fo50_0 hs28_4 rfl) rfl (Pu (Iv a1.At) (Lb 3 pl3 rfl rfl rfl) rfl ?_)))
 obtain ⟨r88, hr89, h⟩ := bnd h
 refine We (Ca co107 (f_ref02_bad_ok a1 (⟨#[102, 108, 97, 103]⟩ : ByteArray) a1.At (5 : Int) _ r88 hr89) (args4 rfl rfl rfl rfl)) rfl ?_
 rintro _ M90 _ hle91 ⟨_, ⟨rfl, rfl⟩, rfl⟩
 refine WL.a0 (Pu (.agg #[(Uv 0), (Bv false), Zs, Zs]) (Bl (cl := [(Uv 0), (Bv false), Zs, Zs]) ze128 fp128 Pz rfl) rfl (WL.f1 (We (Sg (v := (a50_ r88)) (vl := (l50 r88)) (arr' := (l50 r88)) rfl sz50 hs28_6 rfl (onb rfl) rfl rfl rfl) rfl ?_)))
 rintro _ _ _ - ⟨rfl, rfl⟩
 refine WL.f1 (We (Sg (v := (.agg #[(Uv 0), (Bv false), Zs, Zs])) (vl := [(Uv 0), (Bv false), Zs, Zs]) (arr' := [(Uv 0), (Bv false), Zs, Zs]) rfl sz128 hs28_7 rfl (onb rfl) rfl rfl rfl) rfl ?_)
 rintro _ _ _ - ⟨rfl, rfl⟩
 refine Nt (Cr (Tr (Br (Tr (WQ.e0 (WQ.f3 (Dr (WQ.f3 (Dr (Qa (Qb ?_)))))))))))
 exact Rd h [[]] (fun _ hs => hs.drop.drop) (resultsLN rfl (RVs.cons (Rc (cs := (l50 r88)) 0 ag50 sz50 hs28_6 rfl rfl) (RVs.cons (Rc (cs := [(Uv 0), (Bv false), Zs, Zs]) 1 ag128 sz128 hs28_7 rfl rfl) RVs.nil))) (hle28.trans hle91) ⟨Zs, Zs, [], rfl, rfl, RS.nil _ _, (OwnS.nil _ _)⟩
 have h := ite_f hb87 h
 refine Ck (Tc (Cs (WC.draw [0, 1, 3, 7, 0, 0, 32, 112, 240, 496, 1008, 15, 4095] (.pure 0 (.pure 1 (.pure 2 (.pure 3 (.pure 4 (.pure 5 (.pure 6 (.pure 7 (.pure 8 (.pure 9 (.pure 10 (.alt 11 (.alt 12 .done .none) .none)))))))))))) mixed (by kernel_rfl) (Tp (pt g21 0) rfl (Fa fo50_0 hs28_4 rfl) rfl (Tp (Iv a1.At) rfl (Lb 3 pl3 rfl rfl rfl) rfl (Tp (Iv (IntKind.i64.wrap (a1.At + 1))) rfl (PO.add rfl rfl) rfl (Tp (.agg #[(Iv (IntKind.i64.wrap (a1.At + 1))), (Iv 0), (Sv ⟨#[]⟩), (Iv 0)]) rfl (Bl (cl := [(Iv (IntKind.i64.wrap (a1.At + 1))), (Iv 0), (Sv ⟨#[]⟩), (Iv 0)]) ze50 fp50 (Pc (Iv (IntKind.i64.wrap (a1.At + 1))) rfl rfl Pz) rfl) rfl (Tp v0 rfl (Mv hs28_0) rfl (Tp (pt g21 0) rfl (Fa fo50_0 hs28_4 rfl) rfl (Tp (Iv a1.At) rfl (Lb 3 pl3 rfl rfl rfl) rfl ?_))))))))))
 obtain ⟨hg94, h⟩ := grd_i h
 obtain ⟨p95, cs96, hat97, hrc98, hhas99⟩ := h0.at hg94.1 hg94.2 (by decide)
 obtain rfl := hrc98
 refine Tp (.pointer (some p95)) rfl (PO.indexAddr (n := a0.length) Tryz.underlying40 sz5 rfl rfl hg94.1 hg94.2 hat97) rfl (Tp (Yv (rd a0 a1.At)) rfl (PO.loadM pl5 rfl (IM.has0 hhas99)) rfl (Tp (Bv (decide ((rd a0 a1.At) = 1))) rfl (PO.eql rfl rfl) rfl (Tp (.agg #[(Uv 0), (Bv (decide ((rd a0 a1.At) = 1))), Zs, Zs]) rfl (Bl (cl := [(Uv 0), (Bv (decide ((rd a0 a1.At) = 1))), Zs, Zs]) ze128 fp128 (Pc (Bv (decide ((rd a0 a1.At) = 1))) rfl rfl Pz) rfl) rfl (WT.f1 (Ta rfl (Sg (v := (.agg #[(Iv (IntKind.i64.wrap (a1.At + 1))), (Iv 0), (Sv ⟨#[]⟩), (Iv 0)])) (vl := [(Iv (IntKind.i64.wrap (a1.At + 1))), (Iv 0), (Sv ⟨#[]⟩), (Iv 0)]) (arr' := [(Iv (IntKind.i64.wrap (a1.At + 1))), (Iv 0), (Sv ⟨#[]⟩), (Iv 0)]) rfl sz50 hs28_6 rfl (onb rfl) rfl rfl rfl) rfl ?_ ?_)))))
 rintro _ _ _ - ⟨rfl, rfl⟩
 refine ⟨(Ss rfl (Bl (cl := [(Uv 0), (Bv (decide ((rd a0 a1.At) = 1))), Zs, Zs]) ze128 fp128 (Pc (Bv (decide ((rd a0 a1.At) = 1))) rfl rfl Pz) rfl) rfl (Ss rfl (PO.eql rfl rfl) rfl (Ss rfl (PO.loadM pl5 rfl (IM.has0 hhas99)) rfl (Ss rfl (PO.indexAddr (n := a0.length) Tryz.underlying40 sz5 rfl rfl hg94.1 hg94.2 hat97) rfl (Ss rfl (Lb 3 pl3 rfl rfl rfl) rfl (Ss rfl (Fa fo50_0 hs28_4 rfl) rfl (Ss rfl (Mv hs28_0) rfl (Sl rfl)))))))), ?_⟩
 refine WT.f1 (Ta rfl (Sg (v := (.agg #[(Uv 0), (Bv (decide ((rd a0 a1.At) = 1))), Zs, Zs])) (vl := [(Uv 0), (Bv (decide ((rd a0 a1.At) = 1))), Zs, Zs]) (arr' := [(Uv 0), (Bv (decide ((rd a0 a1.At) = 1))), Zs, Zs]) rfl sz128 hs28_7 rfl (onb rfl) rfl rfl rfl) rfl ?_ ?_)
 rintro _ _ _ - ⟨rfl, rfl⟩
 refine ⟨(Sl rfl), ?_⟩
 refine Ti (Tc (Cr (Br (Tr (WQ.e0 (WQ.f3 (Dr (WQ.f3 (Dr (Qa (Qb ?_)))))))))))
 exact Rd h [[]] (fun _ hs => hs.drop.drop) (resultsLN rfl (RVs.cons (Rc (cs := [(Iv (IntKind.i64.wrap (a1.At + 1))), (Iv 0), (Sv ⟨#[]⟩), (Iv 0)]) 0 ag50 sz50 hs28_6 rfl rfl) (RVs.cons (Rc (cs := [(Uv 0), (Bv (decide ((rd a0 a1.At) = 1))), Zs, Zs]) 1 ag128 sz128 hs28_7 rfl rfl) RVs.nil))) hle28 ⟨Zs, Zs, [], rfl, rfl, RS.nil _ _, (OwnS.nil _ _)⟩
 exact Tz
 exact Tz
 have h := ite_f hb72 h
 refine Sr (Pu (Bv (decide (a2.Kind = 3))) (PO.eql hs28_20 rfl) rfl (Pa (Bv (decide (a2.Kind = 3))) rfl rfl (Nt (Cd (b := decide (a2.Kind = 3)) rfl (fun hb102 => ?_) (fun hb102 => ?_)))))
 have h := ite_t hb102 h
 refine Sr (Pm v0 hs28_0 rfl (Pu (a50_ a1) (La (cs := (l50 a1)) 3 ag50 sz50 hs28_4 rfl rfl) rfl (Pu (pt g22 1) (Fa fo132_1 hs28_5 rfl) rfl (Pu (Iv a2.Most) (Lb 2 pl3 rfl rfl rfl) rfl ?_))))
 obtain ⟨⟨r103, r104⟩, hr105, h⟩ := bnd h
 have h0 := h0.mono hle28
 refine We (Ca co112 (f_ref02_text_ok a0 a1 a2.Most _ _ h0 (r103, r104) hr105) (args3 rfl rfl rfl)) rfl ?_
 rintro _ M106 _ hle107 ⟨_, ⟨vq109, rfl, rfl, hq109⟩, rfl⟩
 refine WL.a0 (Pm (.tuple #[(a50_ r103), vq109]) rfl rfl (Pu (a50_ r103) (Xt rfl rfl) rfl (Pu vq109 (Xt rfl rfl) rfl (We (Al ze50 rfl) rfl ?_))))
 rintro _ _ _ - ⟨rfl, g110, rfl, rfl⟩
 refine We (Sg (v := (a50_ r103)) (vl := (l50 r103)) (arr' := (l50 r103)) rfl sz50 rfl rfl (onb rfl) rfl rfl rfl) rfl ?_
 rintro _ _ _ - ⟨rfl, rfl⟩
 refine Pa vq109 rfl rfl (Ns (Pu (a50_ r103) (La (cs := (l50 r103)) 0 ag50 sz50 rfl rfl rfl) rfl (Pm vq109 rfl rfl (Pu (.agg #[(Uv 0), (Bv false), vq109, Zs]) (Bl (cl := [(Uv 0), (Bv false), vq109, Zs]) ze128 fp128 (Parts.cons ((congrArg Value.cells (show ev _ _ = vq109 from rfl)).trans hq109.cells) Pz) rfl) rfl (Wb (We (Sg (v := (a50_ r103)) (vl := (l50 r103)) (arr' := (l50 r103)) rfl sz50 hs28_6 rfl (onb rfl) rfl rfl rfl) rfl ?_))))))
 rintro _ _ _ - ⟨rfl, rfl⟩
 refine Wb (We (Sg (v := (.agg #[(Uv 0), (Bv false), vq109, Zs])) (vl := [(Uv 0), (Bv false), vq109, Zs]) (arr' := [(Uv 0), (Bv false), vq109, Zs]) rfl sz128 hs28_7 rfl (onesOf (Oc rfl (Oc rfl (Oc (RS.one hq109) (Oc rfl Oz))))) rfl rfl rfl) rfl ?_)
 rintro _ _ _ - ⟨rfl, rfl⟩
 refine Nt (Cr (Br (Tr (WQ.e0 (WQ.f3 (Dr (WQ.f3 (Dr (WQ.f3 (Dr (Qa ?_)))))))))))
 exact Qb (Rd h [[]] (fun _ hs => hs.drop.drop) (resultsLN rfl (RVs.cons (Rc (cs := (l50 r103)) 0 ag50 sz50 hs28_6 rfl rfl) (RVs.cons (Rc (cs := [(Uv 0), (Bv false), vq109, Zs]) 1 ag128 sz128 hs28_7 rfl rfl) RVs.nil))) (hle28.trans hle107) ⟨vq109, Zs, [], rfl, rfl, hq109, (OwnS.nil _ _)⟩)
 have h := ite_f hb102 h
 refine Ck (Bn (Tc (Sr (Pm v0 hs28_0 rfl (Pu (a50_ a1) (La (cs := (l50 a1)) 3 ag50 sz50 hs28_4 rfl rfl) rfl (Pu (pt g22 1) (Fa fo132_1 hs28_5 rfl) rfl (Pu (Iv a2.Most) (Lb 2 pl3 rfl rfl rfl) rfl (Pu (pt g22 2) (Fa fo132_2 hs28_5 rfl) rfl (Pu (Iv a2.Each) (Lb 2 pl3 rfl rfl rfl) rfl ?_)))))))))
 obtain ⟨⟨r112, r113⟩, hr114, h⟩ := bnd h
 have h0 := h0.mono hle28
 refine We (Ca co113 (f_ref02_row_ok a0 a1 a2.Most a2.Each _ _ h0 (r112, r113) hr114) (args4 rfl rfl rfl rfl)) rfl ?_
 rintro _ M115 _ hle116 ⟨_, ⟨vq118, cq118, rfl, rfl, hq118⟩, rfl⟩
 refine WL.a1 (Pm (.tuple #[(a50_ r112), vq118]) rfl rfl (Pu (a50_ r112) (Xt rfl rfl) rfl (Pu vq118 (Xt rfl rfl) rfl (We (Al ze50 rfl) rfl ?_))))
 rintro _ _ _ - ⟨rfl, g119, rfl, rfl⟩
 refine We (Sg (v := (a50_ r112)) (vl := (l50 r112)) (arr' := (l50 r112)) rfl sz50 rfl rfl (onb rfl) rfl rfl rfl) rfl ?_
 rintro _ _ _ - ⟨rfl, rfl⟩
 refine Pa vq118 rfl rfl (Ns (Pu (a50_ r112) (La (cs := (l50 r112)) 0 ag50 sz50 rfl rfl rfl) rfl (Pm vq118 rfl rfl (Pu (.agg #[(Uv 0), (Bv false), Zs, vq118]) (Bl (cl := [(Uv 0), (Bv false), Zs, vq118]) ze128 fp128 (Parts.cons ((congrArg Value.cells (show ev _ _ = vq118 from rfl)).trans hq118.cells) Pz) rfl) rfl (WL.f3 (We (Sg (v := (a50_ r112)) (vl := (l50 r112)) (arr' := (l50 r112)) rfl sz50 hs28_6 rfl (onb rfl) rfl rfl rfl) rfl ?_))))))
 rintro _ _ _ - ⟨rfl, rfl⟩
 refine WL.f3 (We (Sg (v := (.agg #[(Uv 0), (Bv false), Zs, vq118])) (vl := [(Uv 0), (Bv false), Zs, vq118]) (arr' := [(Uv 0), (Bv false), Zs, vq118]) rfl sz128 hs28_7 rfl (onesOf (Oc rfl (Oc rfl (Oc rfl (Oc (Ow hq118) Oz))))) rfl rfl rfl) rfl ?_)
 rintro _ _ _ - ⟨rfl, rfl⟩
 exact Nt (Cr (Qb (Dr (WQ.f3 (Dr (WQ.f3 (Dr (Qb (Qa (Qb (Rd h [cq118] (fun _ hs => hs.drop.drop) (resultsLN rfl (RVs.cons (Rc (cs := (l50 r112)) 0 ag50 sz50 hs28_6 rfl rfl) (RVs.cons (Rc (cs := [(Uv 0), (Bv false), Zs, vq118]) 1 ag128 sz128 hs28_7 rfl rfl) RVs.nil))) (hle28.trans hle116) ⟨Zs, vq118, cq118, rfl, rfl, RS.nil _ _, hq118⟩)))))))))))


end Go.Proofs.YtjiffdgidodebaaGreatDoor.G
