/- Go functions: what they come to, and that they do. Printed by a program of the session (gen). -/
import Derived.Test.YtkflneabcannnaaGreatDoorCF
import Derived.Test.YtkflneabcannnaaGreatDoorC4
import Derived.Test.YtkflneabcannnaaGreatDoorC5
import Derived.Test.YtkflneabcannnaaGreatDoorC6
import Derived.Test.YtkflneabcannnaaGreatDoorKConv
import Derived.Test.YtkflneabcannnaaGreatDoorKShar2
import Derived.Test.YtkflneabcannnaaGreatDoorKTight2
set_option linter.unusedVariables false
set_option linter.unusedSimpArgs false
set_option maxHeartbeats 8000000
set_option maxRecDepth 100000
namespace Go.Proofs.YtkflneabcannnaaGreatDoor.G
open Go Go.KK

noncomputable def f_batch_Next_l0 (a0 : T_wire_Reader) (r42 : Int) (s_ : (Int × (List T_api_Record) × Int × GErr)) : Option ((Int × (List T_api_Record) × Int × GErr) ⊕ (Int × GErr × (List T_api_Record))) :=
  match s_ with
  | (x70, x71, x72, x73) =>
    (((if (decide (x70 < r42)) = true then ((f_wire_Reader_Err (⟨a0.b, x72, x73⟩ : T_wire_Reader)).bind fun r80 => (some r80.isNil)) else (some false)) : Option Bool).bind fun x77 => (if x77 = true then ((f_record_Read (⟨a0.b, x72, x73⟩ : T_wire_Reader)).bind fun (r86, r87, r88) => (grd (x71.length + [r86].length ≤ 274877906944) (some (Sum.inl (IntKind.i64.wrap (x70 + (1 : Int)), x71 ++ [r86], r87, r88))))) else (some (Sum.inr (x72, x73, x71)))))
noncomputable def f_batch_Next (a0 : T_wire_Reader) : Option (T_api_Batch × Int × GErr) :=
  ((f_wire_Reader_At a0).bind fun r22 => ((f_wire_Reader_Int a0 (1073741824 : Int)).bind fun (r27, r28, r29) => ((f_wire_Reader_Int (⟨a0.b, r28, r29⟩ : T_wire_Reader) (1073741824 : Int)).bind fun (r34, r35, r36) => ((f_wire_Reader_Int (⟨a0.b, r35, r36⟩ : T_wire_Reader) (64 : Int)).bind fun (r42, r43, r44) => ((((((f_wire_Reader_Err (⟨a0.b, r43, r44⟩ : T_wire_Reader)).bind fun r53 => (if r53.isNil = true then (if (decide (r27 = (0 : Int))) = true then (some true) else (some (decide (r42 = (0 : Int))))) else (some false))) : Option Bool).bind fun x51 => (if x51 = true then ((f_wire_Reader_Refuse (⟨a0.b, r43, r44⟩ : T_wire_Reader) (⟨#[98, 97, 116, 99, 104]⟩ : ByteArray) (2 : Int)).bind fun r61 => (some r61)) else (some r44))) : Option GErr).bind fun x49 => ((((iter (f_batch_Next_l0 a0 r42) ((0 : Int), [], r43, x49)).bind (fun (x74, x75, x76) => (some (x74, x75, x76)))) : Option (Int × GErr × (List T_api_Record))).bind fun (x65, x66, x67) => ((((f_wire_Reader_At (⟨a0.b, x65, x66⟩ : T_wire_Reader)).bind fun r123 => (if (decide ((16384 : Int) < (IntKind.i64.wrap (r123 - r22)))) = true then ((f_wire_Reader_Refuse (⟨a0.b, x65, x66⟩ : T_wire_Reader) (⟨#[98, 97, 116, 99, 104]⟩ : ByteArray) (6 : Int)).bind fun r129 => (some r129)) else (some x66))) : Option GErr).bind fun x121 => ((f_wire_Reader_Err (⟨a0.b, x65, x121⟩ : T_wire_Reader)).bind fun r133 => (if (!r133.isNil) = true then (some ((⟨(0 : Int), (0 : Int), []⟩ : T_api_Batch), x65, x121)) else (some ((⟨r27, r34, x67⟩ : T_api_Batch), x65, x121)))))))))))
def f_batch_Next_post (a0 : T_wire_Reader) (v0_0 : Value) (g0 : Nat) : (T_api_Batch × Int × GErr) → Value → IM → HL → Prop :=
  fun (p_ : (T_api_Batch × Int × GErr)) (v : Value) (M' : IM) (H' : HL) => match p_ with | (r0, r1, r2) => ∃ vz0_2 cz0_2, (.agg #[(.int .i64 r0.Term), (.int .i64 r0.Base), vz0_2]) = v ∧ H' = [[(g0, .cells #[v0_0, (.int .i64 r1), (GV r2)] 110 (0, 0))], cz0_2] ∧ OwnS kd_api_Record M' vz0_2 r0.Records cz0_2
theorem f_batch_Next_ok (a0 : T_wire_Reader) (M : IM) (v0_0 : Value) (g0 : Nat) (h0_0 : RS (Kd.int .u8) M v0_0 a0.b) (hE : Env M) (res : (T_api_Batch × Int × GErr)) (h : f_batch_Next a0 = some res) :
    Tri Tryz.prog 37 #[(pt g0 0)] M [[(g0, .cells #[v0_0, (Iv a0.at_), (GV a0.err)] 110 (0, 0))]] (f_batch_Next_post a0 v0_0 g0 res) := by
 unfold f_batch_Next at h
 refine Te Tryz.func37 rfl rfl ?_
 intro F ρ hρ
 refine Sr (We (Al ze55 rfl) rfl ?_)
 rintro _ _ _ - ⟨rfl, g21, rfl, rfl⟩
 refine Ns (qM (pt g0 0) (hρ 0) ?_)
 obtain ⟨r22, hr23, h⟩ := bnd h
 refine WL.f1 (We (Cb co70 (f_wire_Reader_At_ok a0 _ _ _ h0_0 r22 hr23) (args1 rfl)) rfl ?_)
 rintro _ M24 _ hle25 ⟨_, ⟨rfl, rfl⟩, rfl⟩
 refine WL.a1 (qa (Iv r22) (Ns (qM (pt g0 0) (hρ 0) ?_)))
 obtain ⟨⟨r27, r28, r29⟩, hr30, h⟩ := bnd h
 have h0_0 := h0_0.mono hle25
 refine We (Cb co32 (f_wire_Reader_Int_ok a0 (1073741824 : Int) _ _ _ h0_0 (r27, r28, r29) hr30) (args2 rfl rfl)) rfl ?_
 rintro _ M31 _ hle32 ⟨_, ⟨rfl, rfl⟩, rfl⟩
 refine WL.a1 (qM (pt g0 0) (hρ 0) ?_)
 obtain ⟨⟨r34, r35, r36⟩, hr37, h⟩ := bnd h
 have h0_0 := h0_0.mono hle32
 refine We (Cb co32 (f_wire_Reader_Int_ok (⟨a0.b, r28, r29⟩ : T_wire_Reader) (1073741824 : Int) _ _ _ h0_0 (r34, r35, r36) hr37) (args2 rfl rfl)) rfl ?_
 rintro _ M38 _ hle39 ⟨_, ⟨rfl, rfl⟩, rfl⟩
 refine WL.a1 (qu (.agg #[(Iv r27), (Iv r34), Zs]) (Bl (cl := [(Iv r27), (Iv r34), Zs]) ze55 fp55 (Pc (Iv r27) rfl rfl (Pc (Iv r34) rfl rfl Pz)) rfl) (We (Al ze55 rfl) rfl ?_))
 rintro _ _ _ - ⟨rfl, g41, rfl, rfl⟩
 refine We (Sg (v := (.agg #[(Iv r27), (Iv r34), Zs])) (vl := [(Iv r27), (Iv r34), Zs]) (arr' := [(Iv r27), (Iv r34), Zs]) rfl sz55 rfl rfl (onb rfl) rfl rfl rfl) rfl ?_
 rintro _ _ _ - ⟨rfl, rfl⟩
 refine Ns (qM (pt g0 0) (hρ 0) ?_)
 obtain ⟨⟨r42, r43, r44⟩, hr45, h⟩ := bnd h
 refine WL.f1 ?_
 have h0_0 := h0_0.mono hle39
 refine We (Cb co32 (f_wire_Reader_Int_ok (⟨a0.b, r35, r36⟩ : T_wire_Reader) (64 : Int) _ _ _ h0_0 (r42, r43, r44) hr45) (args2 rfl rfl)) rfl ?_
 rintro _ M46 _ hle47 ⟨_, ⟨rfl, rfl⟩, rfl⟩
 have L47 := ((hle25.trans hle32).trans hle39).trans hle47
 refine WL.a1 (qa (Iv r42) (Nt ?_))
 obtain ⟨x49, hj50, h⟩ := bnd h
 refine Jf (fun (x49 : GErr) ρ' M' H' => M46.le M' ∧ [(g0, .cells #[v0_0, (Iv r43), (GV x49)] 110 (0, 0))] :: [(g41, .cells #[(Iv r27), (Iv r34), Zs] 55 (0, 0))] :: [(g21, .cells #[(Iv 0), (Iv 0), Zs] 55 (0, 0))] :: F = H' ∧ ρ' 0 = (pt g0 0) ∧ ρ' 2 = (pt g21 0) ∧ ρ' 3 = (Iv r22) ∧ ρ' 4 = (pt g41 0) ∧ ρ' 5 = (Iv r42)) x49 ?_ ?_
 have h := hj50
 obtain ⟨x51, hj52, h⟩ := bnd h
 refine Jf (fun (x51 : Bool) ρ' M' H' => M46.le M' ∧ [(g0, .cells #[v0_0, (Iv r43), (GV r44)] 110 (0, 0))] :: [(g41, .cells #[(Iv r27), (Iv r34), Zs] 55 (0, 0))] :: [(g21, .cells #[(Iv 0), (Iv 0), Zs] 55 (0, 0))] :: F = H' ∧ ρ' 0 = (pt g0 0) ∧ ρ' 2 = (pt g21 0) ∧ ρ' 3 = (Iv r22) ∧ ρ' 4 = (pt g41 0) ∧ ρ' 5 = (Iv r42) ∧ ρ' 27 = (Bv x51)) x51 ?_ ?_
 have h := hj52
 refine Cg (qM (pt g0 0) (hρ 0) ?_)
 obtain ⟨r53, hr54, h⟩ := bnd h
 have h0_0 := h0_0.mono hle47
 refine We (Cb co36 (f_wire_Reader_Err_ok (⟨a0.b, r43, r44⟩ : T_wire_Reader) _ _ _ h0_0 r53 hr54) (args1 rfl)) rfl ?_
 rintro _ M55 _ hle56 ⟨_, ⟨rfl, rfl⟩, rfl⟩
 refine WL.a1 (qu (Bv r53.isNil) (PO.errNil Tryz.underlying31 rfl) (qm (Bv r53.isNil) ?_))
 rcases Bt (r53.isNil) with hb58 | hb58
 have h := ite_t hb58 h
 refine qo 19 hb58 (pt g41 0) (Fa fo55_0 rfl rfl) (qo 19 hb58 (Iv r27) (Lb 1 pl3 rfl rfl rfl) (qo 19 hb58 (Bv (decide (r27 = 0))) (PO.eql rfl rfl) (On 19 rfl rfl hb58 (qm (Bv (decide (r27 = 0))) ?_))))
 rcases Bt (decide (r27 = 0)) with hb59 | hb59
 have h := ite_t hb59 h
 iterate 2 refine Of 23 rfl rfl hb59 rfl ?_
 refine qo 19 hb58 (Bv true) (Pt rfl hb59 rfl) (qu (Bv true) (Pt rfl hb58 rfl) (Wz ?_))
 obtain rfl := oi h
 exact Tj ⟨hle56, rfl, (hρ 0), rfl, rfl, rfl, rfl, rfl⟩
 have h := ite_f hb59 h
 refine On 23 rfl rfl hb59 (qm (Iv r42) (qo 23 hb59 (Bv (decide (r42 = 0))) (PO.eql rfl rfl) (qo 19 hb58 (Bv (decide (r42 = 0))) (Pf rfl hb59 rfl) (qu (Bv (decide (r42 = 0))) (Pt rfl hb58 rfl) (Wz ?_)))))
 obtain rfl := oi h
 exact Tj ⟨hle56, rfl, (hρ 0), rfl, rfl, rfl, rfl, rfl⟩
 have h := ite_f hb58 h
 iterate 4 refine Of 19 rfl rfl hb58 rfl ?_
 refine WL.offU 23 rfl rfl rfl (WL.offU 23 rfl rfl rfl (Of 19 rfl rfl hb58 rfl (qu (Bv false) (Pf rfl hb58 rfl) (Wz ?_))))
 obtain rfl := oi h
 exact Tj ⟨hle56, rfl, (hρ 0), rfl, rfl, rfl, rfl, rfl⟩
 rintro ρ52 M52 H52 ⟨hle52, rfl, hs52_0, hs52_2, hs52_3, hs52_4, hs52_5, hs52_27⟩
 refine Cd (b := x51) hs52_27 (fun hb60 => ?_) (fun hb60 => ?_)
 have h := ite_t hb60 h
 refine Cg (qM (pt g0 0) hs52_0 ?_)
 obtain ⟨r61, hr62, h⟩ := bnd h
 have h0_0 := h0_0.mono (hle47.trans hle52)
 refine We (Cb co71 (f_wire_Reader_Refuse_ok (⟨a0.b, r43, r44⟩ : T_wire_Reader) (⟨#[98, 97, 116, 99, 104]⟩ : ByteArray) (2 : Int) _ _ _ h0_0 r61 hr62) (args3 rfl rfl rfl)) rfl ?_
 rintro _ M63 _ hle64 ⟨_, ⟨rfl, rfl⟩, rfl⟩
 refine WL.a1 (Wz ?_)
 obtain rfl := oi h
 exact Tj ⟨(hle52.trans hle64), rfl, hs52_0, hs52_2, hs52_3, hs52_4, hs52_5⟩
 have h := ite_f hb60 h
 refine Ck ?_
 obtain rfl := oi h
 exact Tj ⟨hle52, rfl, hs52_0, hs52_2, hs52_3, hs52_4, hs52_5⟩
 rintro ρ50 M50 H50 ⟨hle50, rfl, hs50_0, hs50_2, hs50_3, hs50_4, hs50_5⟩
 have L50 := L47.trans hle50
 obtain ⟨j68, hj68, h⟩ := bnd h
 refine Jf (fun (p_ : (Int × GErr × (List T_api_Record))) ρ' M' H' => match p_ with | (x65, x66, x67) => ∃ vx67 cx67, M50.le M' ∧ [(g0, .cells #[v0_0, (Iv x65), (GV x66)] 110 (0, 0))] :: [(g41, .cells #[(Iv r27), (Iv r34), vx67] 55 (0, 0))] :: [(g21, .cells #[(Iv 0), (Iv 0), Zs] 55 (0, 0))] :: cx67 :: F = H' ∧ ρ' 0 = (pt g0 0) ∧ ρ' 2 = (pt g21 0) ∧ ρ' 3 = (Iv r22) ∧ ρ' 4 = (pt g41 0) ∧ OwnS kd_api_Record M' vx67 x67 cx67) j68 ?_ ?_
 have h := hj68
 refine Sr (qa (Iv 0) (Nt (Bk (WC.e0 (WC.f3 (WC.f3 (WC.f3 ?_)))))))
 obtain ⟨e69, he69, hK69⟩ := bnd h
 clear h
 refine WC.loop he69 (fun (p_ : (Int × (List T_api_Record) × Int × GErr)) ρ' M' H' => match p_ with | (x70, x71, x72, x73) => ∃ vx71 cx71, M50.le M' ∧ [(g0, .cells #[v0_0, (Iv x72), (GV x73)] 110 (0, 0))] :: [(g41, .cells #[(Iv r27), (Iv r34), vx71] 55 (0, 0))] :: [(g21, .cells #[(Iv 0), (Iv 0), Zs] 55 (0, 0))] :: cx71 :: F = H' ∧ ρ' 0 = (pt g0 0) ∧ ρ' 2 = (pt g21 0) ∧ ρ' 3 = (Iv r22) ∧ ρ' 4 = (pt g41 0) ∧ ρ' 5 = (Iv r42) ∧ ρ' 6 = (Iv x70) ∧ OwnS kd_api_Record M' vx71 x71 cx71) ?_ ?_
 exact ⟨Zs, [], lr, rfl, hs50_0, hs50_2, hs50_3, hs50_4, hs50_5, rfl, (OwnS.nil _ _)⟩
 rintro ⟨x70, x71, x72, x73⟩ o69 ρ69 M69 H69 h ⟨vx71, cx71, hle69, rfl, hs69_0, hs69_2, hs69_3, hs69_4, hs69_5, hs69_6, hx71⟩
 unfold f_batch_Next_l0 at h
 refine Cs ?_
 obtain ⟨x77, hj78, h⟩ := bnd h
 refine Jf (fun (x77 : Bool) ρ' M' H' => M69.le M' ∧ [(g0, .cells #[v0_0, (Iv x72), (GV x73)] 110 (0, 0))] :: [(g41, .cells #[(Iv r27), (Iv r34), vx71] 55 (0, 0))] :: [(g21, .cells #[(Iv 0), (Iv 0), Zs] 55 (0, 0))] :: cx71 :: F = H' ∧ ρ' 0 = (pt g0 0) ∧ ρ' 2 = (pt g21 0) ∧ ρ' 3 = (Iv r22) ∧ ρ' 4 = (pt g41 0) ∧ ρ' 5 = (Iv r42) ∧ ρ' 6 = (Iv x70) ∧ ρ' 37 = (Bv x77)) x77 ?_ ?_
 have h := hj78
 refine Cg (qM (Iv x70) hs69_6 (qM (Iv r42) hs69_5 (qu (Bv (decide (x70 < r42))) (PO.lss rfl rfl) (qm (Bv (decide (x70 < r42))) ?_))))
 rcases Bt (decide (x70 < r42)) with hb79 | hb79
 have h := ite_t hb79 h
 refine On 33 rfl rfl hb79 (qM (pt g0 0) hs69_0 (On 33 rfl rfl hb79 ?_))
 obtain ⟨r80, hr81, h⟩ := bnd h
 have h0_0 := h0_0.mono ((hle47.trans hle50).trans hle69)
 refine We (Cb co36 (f_wire_Reader_Err_ok (⟨a0.b, x72, x73⟩ : T_wire_Reader) _ _ _ h0_0 r80 hr81) (args1 rfl)) rfl ?_
 rintro _ M82 _ hle83 ⟨_, ⟨rfl, rfl⟩, rfl⟩
 refine WL.a1 (qo 33 hb79 (Bv r80.isNil) (PO.errNil Tryz.underlying31 rfl) (qu (Bv r80.isNil) (Pt rfl hb79 rfl) (Wz ?_)))
 obtain rfl := oi h
 exact Tj ⟨hle83, rfl, hs69_0, hs69_2, hs69_3, hs69_4, hs69_5, hs69_6, rfl⟩
 have h := ite_f hb79 h
 iterate 3 refine Of 33 rfl rfl hb79 rfl ?_
 refine qu (Bv false) (Pf rfl hb79 rfl) (Wz ?_)
 obtain rfl := oi h
 exact Tj ⟨lr, rfl, hs69_0, hs69_2, hs69_3, hs69_4, hs69_5, hs69_6, rfl⟩
 rintro ρ78 M78 H78 ⟨hle78, rfl, hs78_0, hs78_2, hs78_3, hs78_4, hs78_5, hs78_6, hs78_37⟩
 refine Cd (b := x77) hs78_37 (fun hb85 => ?_) (fun hb85 => ?_)
 have h := ite_t hb85 h
 refine Ck (Tc (Cs (Bk (WC.draw [0, 1, 0, 4, 12, 31, 63, 127] (.pure 0 (.pure 1 (.pure 2 (.alt 3 (.alt 4 (.alt 5 (.pure 6 (.alt 7 .done .none)) .none) .none) .none)))) mixed (by kernel_rfl) (qt (pt g41 2) rfl (Fa fo55_2 hs78_4 rfl) (qt vx71 rfl (Lb 1 pl53 rfl rfl rfl) (qt (pt g0 0) rfl (Mv hs78_0) ?_)))))))
 obtain ⟨⟨r86, r87, r88⟩, hr89, h⟩ := bnd h
 have h0_0 := h0_0.mono (((hle47.trans hle50).trans hle69).trans hle78)
 have hE := hE.mono ((L50.trans hle69).trans hle78)
 refine Ta rfl (Cb co72 (f_record_Read_ok (⟨a0.b, x72, x73⟩ : T_wire_Reader) _ _ _ h0_0 hE (r86, r87, r88) hr89) (args1 rfl)) rfl ?_ ?_
 rintro _ M90 _ hle91 ⟨_, ⟨vq92_14, cq92_14, vq92_15, cq92_15, vq92_16, cq92_16, vq92_17, cq92_17, rfl, rfl, hq92_14, hq92_15, hq92_16, hq92_17⟩, rfl⟩
 refine ⟨(Sk 1 rfl (Ss rfl (Lb 5 pl53 rfl rfl rfl) rfl (Ss rfl (Fa fo55_2 hs78_4 rfl) rfl trivial))), ?_⟩
 refine WT.a5 (WT.f1 (WT.know (fun _ hs => hq92_14.rs hs) (fun hf97 => ?_)))
 refine WT.freeze (fun hle96 => ?_)
 refine WT.f1 ?_
 have hq92_15 := hq92_15.mono hle96
 refine WT.know (fun _ hs => hq92_15.rs hs) (fun hf102 => ?_)
 refine WT.freeze (fun hle101 => ?_)
 refine WT.f1 ?_
 have hq92_16 := hq92_16.mono (hle96.trans hle101)
 refine WT.know (fun _ hs => hq92_16.rs hs) (fun hf107 => ?_)
 refine WT.freeze (fun hle106 => ?_)
 refine WT.f1 ?_
 have hq92_17 := hq92_17.mono ((hle96.trans hle101).trans hle106)
 refine WT.know (fun _ hs => hq92_17.rs hs) (fun hf112 => ?_)
 refine WT.freeze (fun hle111 => ?_)
 refine Ta rfl (EO.buildSliceL (cl := (l58 r86 vq92_14 vq92_15 vq92_16 vq92_17)) Tryz.underlying53 iz58 rfl (Pc (a58_ r86 vq92_14 vq92_15 vq92_16 vq92_17) rfl rfl Pz) rfl) rfl ?_ ?_
 rintro _ _ _ - ⟨rfl, g113, rfl, rfl⟩
 have hf97 := hf97.mono ((hle101.trans hle106).trans hle111)
 have hf102 := hf102.mono (hle106.trans hle111)
 have hf107 := hf107.mono hle111
 have h115 : OwnS kd_api_Record ((((M90.add cq92_14).add cq92_15).add cq92_16).add cq92_17) (.slice (some ⟨g113, 0, none⟩) 1 1) [r86] [(g113, .cells (l58 r86 vq92_14 vq92_15 vq92_16 vq92_17).toArray 58 (0, 0))] := OwnS.rows (css := [(l58 r86 vq92_14 vq92_15 vq92_16 vq92_17)]) (Rows.cons (kd_api_Record_mk (x := r86) hf97 hf102 hf107 hf112) Rows.nil) rfl rfl
 refine ⟨(Sk 1 rfl (Ss rfl (Lb 2 pl53 rfl rfl rfl) rfl (Ss rfl (Fa fo55_2 hs78_4 rfl) rfl trivial))), ?_⟩
 obtain ⟨hg119, h⟩ := grd_i h
 refine WT.f4 ?_
 have hx71 := hx71.mono (((((hle78.trans hle91).trans hle96).trans hle101).trans hle106).trans hle111)
 refine Ta rfl (EO.append (dd := kd_api_Record) (xs := x71) (ys := [r86]) Tryz.underlying53 Tryz.underlying53 in58 rfl (appB (by decide) hg119) (by decide) rfl rfl hx71 (h115.src 1 rfl)) rfl ?_ ?_
 rintro v118 _ _ - ⟨rfl, c116, rfl, h117⟩
 refine ⟨(Sl rfl), ?_⟩
 refine qt (pt g41 2) rfl (Fa fo55_2 hs78_4 rfl) (WT.f3 (Ta rfl (Es v118 [(Iv r27), (Iv r34), v118] h117.cells sz53 rfl rfl (Ow h117) rfl rfl rfl) rfl ?_ ?_))
 rintro _ _ _ - ⟨rfl, rfl⟩
 refine ⟨(Sl rfl), ?_⟩
 refine Ti (Bn (Tc (Cg (qM (Iv x70) hs78_6 (qu (Iv (IntKind.i64.wrap (x70 + 1))) (PO.add rfl rfl) (qa (Iv (IntKind.i64.wrap (x70 + 1))) (Wz (Qb (Dr (Qa (WQ.f3 ?_)))))))))))
 exact Qb (WQ.f3 (WQ.again (IntKind.i64.wrap (x70 + 1), x71 ++ [r86], r87, r88) (oi h).symm ⟨v118, c116, ((((((hle69.trans hle78).trans hle91).trans hle96).trans hle101).trans hle106).trans hle111), rfl, hs78_0, hs78_2, hs78_3, hs78_4, hs78_5, rfl, h117⟩))
 exact Tz
 exact Tz
 exact Tz
 exact Tz
 have h := ite_f hb85 h
 refine WC.exit (WQ.thenE (WQ.leaveE (x72, x73, x71) (oi h).symm (fun heq69 => ?_)))
 subst heq69
 have h := hK69
 refine WQ.blockH ?_
 obtain rfl := oi h
 refine Tj ?_
 have hx71 := hx71.mono hle78
 exact ⟨vx71, cx71, (hle69.trans hle78), rfl, hs78_0, hs78_2, hs78_3, hs78_4, hx71⟩
 obtain ⟨x65, x66, x67⟩ := j68
 rintro ρ68 M68 H68 ⟨vx67, cx67, hle68, rfl, hs68_0, hs68_2, hs68_3, hs68_4, hx67⟩
 obtain ⟨x121, hj122, h⟩ := bnd h
 refine Jf (fun (x121 : GErr) ρ' M' H' => M68.le M' ∧ [(g0, .cells #[v0_0, (Iv x65), (GV x121)] 110 (0, 0))] :: [(g41, .cells #[(Iv r27), (Iv r34), vx67] 55 (0, 0))] :: [(g21, .cells #[(Iv 0), (Iv 0), Zs] 55 (0, 0))] :: cx67 :: F = H' ∧ ρ' 0 = (pt g0 0) ∧ ρ' 2 = (pt g21 0) ∧ ρ' 4 = (pt g41 0)) x121 ?_ ?_
 have h := hj122
 refine Sr (qM (pt g0 0) hs68_0 ?_)
 obtain ⟨r123, hr124, h⟩ := bnd h
 have h0_0 := h0_0.mono ((hle47.trans hle50).trans hle68)
 refine We (Cb co70 (f_wire_Reader_At_ok (⟨a0.b, x65, x66⟩ : T_wire_Reader) _ _ _ h0_0 r123 hr124) (args1 rfl)) rfl ?_
 rintro _ M125 _ hle126 ⟨_, ⟨rfl, rfl⟩, rfl⟩
 refine WL.a1 (qM (Iv r22) hs68_3 (qu (Iv (IntKind.i64.wrap (r123 - r22))) (PO.sub rfl rfl) (qu (Bv (decide ((16384 : Int) < (IntKind.i64.wrap (r123 - r22))))) (PO.gtr rfl rfl) (Nt (Cd (b := decide ((16384 : Int) < (IntKind.i64.wrap (r123 - r22)))) rfl (fun hb128 => ?_) (fun hb128 => ?_))))))
 have h := ite_t hb128 h
 refine Cg (qM (pt g0 0) hs68_0 ?_)
 obtain ⟨r129, hr130, h⟩ := bnd h
 have h0_0 := h0_0.mono hle126
 refine We (Cb co71 (f_wire_Reader_Refuse_ok (⟨a0.b, x65, x66⟩ : T_wire_Reader) (⟨#[98, 97, 116, 99, 104]⟩ : ByteArray) (6 : Int) _ _ _ h0_0 r129 hr130) (args3 rfl rfl rfl)) rfl ?_
 rintro _ M131 _ hle132 ⟨_, ⟨rfl, rfl⟩, rfl⟩
 refine WL.a1 (Wz ?_)
 obtain rfl := oi h
 exact Tj ⟨(hle126.trans hle132), rfl, hs68_0, hs68_2, hs68_4⟩
 have h := ite_f hb128 h
 refine Ck ?_
 obtain rfl := oi h
 exact Tj ⟨hle126, rfl, hs68_0, hs68_2, hs68_4⟩
 rintro ρ122 M122 H122 ⟨hle122, rfl, hs122_0, hs122_2, hs122_4⟩
 refine Cs (Sr (qM (pt g0 0) hs122_0 ?_))
 obtain ⟨r133, hr134, h⟩ := bnd h
 have h0_0 := h0_0.mono (((hle47.trans hle50).trans hle68).trans hle122)
 refine We (Cb co36 (f_wire_Reader_Err_ok (⟨a0.b, x65, x121⟩ : T_wire_Reader) _ _ _ h0_0 r133 hr134) (args1 rfl)) rfl ?_
 rintro _ M135 _ hle136 ⟨_, ⟨rfl, rfl⟩, rfl⟩
 refine WL.a1 (qu (Bv (!r133.isNil)) (PO.errNotNil Tryz.underlying31 rfl) (Nt (Cd (b := !r133.isNil) rfl (fun hb138 => ?_) (fun hb138 => ?_))))
 have h := ite_t hb138 h
 refine Sr (qu (.agg #[(Iv 0), (Iv 0), Zs]) (Bl (cl := [(Iv 0), (Iv 0), Zs]) ze55 fp55 Pz rfl) (Wb (We (Sg (v := (.agg #[(Iv 0), (Iv 0), Zs])) (vl := [(Iv 0), (Iv 0), Zs]) (arr' := [(Iv 0), (Iv 0), Zs]) rfl sz55 hs122_2 rfl (onb rfl) rfl rfl rfl) rfl ?_)))
 rintro _ _ _ - ⟨rfl, rfl⟩
 exact Nt (Cr (Tr (WQ.e0 (WQ.f3 (Dr (WQ.f3 (Dr (Qb (Qb (Rd h [[(g0, .cells #[v0_0, (Iv x65), (GV x121)] 110 (0, 0))], []] (fun _ hs => hs.drop) (resultsL1 rfl (Rc (cs := [(Iv 0), (Iv 0), Zs]) 0 ag55 sz55 hs122_2 rfl rfl)) (((L50.trans hle68).trans hle122).trans hle136) ⟨Zs, [], rfl, rfl, (OwnS.nil _ _)⟩))))))))))
 have h := ite_f hb138 h
 refine Ck (Tc (Sr (qu (.agg #[(Iv r27), (Iv r34), vx67]) (La (cs := [(Iv r27), (Iv r34), vx67]) 1 ag55 sz55 hs122_4 rfl rfl) (Wb ?_))))
 have hx67 := hx67.mono (hle122.trans hle136)
 refine We (Sg (v := (.agg #[(Iv r27), (Iv r34), vx67])) (vl := [(Iv r27), (Iv r34), vx67]) (arr' := [(Iv r27), (Iv r34), vx67]) rfl sz55 hs122_2 rfl (onesOf (Oc rfl (Oc rfl (Oc (Ow hx67) Oz)))) rfl rfl rfl) rfl ?_
 rintro _ _ _ - ⟨rfl, rfl⟩
 exact Nt (Cr (Qb (Dr (Rd h [[(g0, .cells #[v0_0, (Iv x65), (GV x121)] 110 (0, 0))], cx67] (fun _ hs => hs.drop) (resultsL1 rfl (Rc (cs := [(Iv r27), (Iv r34), vx67]) 0 ag55 sz55 hs122_2 rfl rfl)) (((L50.trans hle68).trans hle122).trans hle136) ⟨vx67, cx67, rfl, rfl, hx67⟩))))

noncomputable def f_wire_Reader_End (a0 : T_wire_Reader) : Option (GErr × GErr) :=
  (((if (decide (a0.at_ < (a0.b.length : Int))) = true then ((f_wire_Reader_fail a0 (⟨#[101, 110, 100]⟩ : ByteArray) a0.at_ (5 : Int)).bind fun r24 => (some r24)) else (some a0.err)) : Option GErr).bind fun x21 => (some (x21, x21)))
def f_wire_Reader_End_post (a0 : T_wire_Reader) (v0_0 : Value) (g0 : Nat) : (GErr × GErr) → Value → IM → HL → Prop :=
  fun (p_ : (GErr × GErr)) (v : Value) (M' : IM) (H' : HL) => match p_ with | (r0, r1) => (GV r0) = v ∧ H' = [[(g0, .cells #[v0_0, (.int .i64 a0.at_), (GV r1)] 110 (0, 0))]]
theorem f_wire_Reader_End_ok (a0 : T_wire_Reader) (M : IM) (v0_0 : Value) (g0 : Nat) (h0_0 : RS (Kd.int .u8) M v0_0 a0.b) (res : (GErr × GErr)) (h : f_wire_Reader_End a0 = some res) :
    Tri Tryz.prog 38 #[(pt g0 0)] M [[(g0, .cells #[v0_0, (Iv a0.at_), (GV a0.err)] 110 (0, 0))]] (f_wire_Reader_End_post a0 v0_0 g0 res) := by
 unfold f_wire_Reader_End at h
 refine Te Tryz.func38 rfl rfl ?_
 intro F ρ hρ
 refine Sr (qa (GV GErr.nil) (Nt ?_))
 obtain ⟨x21, hj22, h⟩ := bnd h
 refine Jf (fun (x21 : GErr) ρ' M' H' => M.le M' ∧ [(g0, .cells #[v0_0, (Iv a0.at_), (GV x21)] 110 (0, 0))] :: F = H' ∧ ρ' 0 = (pt g0 0)) x21 ?_ ?_
 have h := hj22
 refine Cs (WC.draw [0, 1, 3, 7, 0, 16, 48, 112, 240, 511] (.pure 0 (.pure 1 (.pure 2 (.pure 3 (.pure 4 (.pure 5 (.pure 6 (.pure 7 (.pure 8 (.pure 9 .done)))))))))) mixed (by kernel_rfl) (qt (pt g0 0) rfl (Mv (hρ 0)) (qt (pt g0 0) rfl (Nk rfl) (qt (pt g0 1) rfl (Fa fo110_1 rfl rfl) (qt (Iv a0.at_) rfl (Lb 0 pl3 rfl rfl rfl) (qt (pt g0 0) rfl (Mv (hρ 0)) (qt (pt g0 0) rfl (Nk rfl) (qt (pt g0 0) rfl (Fa fo110_0 rfl rfl) (qt v0_0 rfl (Lb 0 pl23 rfl rfl rfl) (qt (Iv (a0.b.length : Int)) rfl (PO.lenS Tryz.underlying23 rfl h0_0.len) (qt (Bv (decide (a0.at_ < (a0.b.length : Int)))) rfl (PO.lss rfl rfl) ?_)))))))))))
 refine Ti (Tc (Cd (b := decide (a0.at_ < (a0.b.length : Int))) rfl (fun hb23 => ?_) (fun hb23 => ?_)))
 have h := ite_t hb23 h
 refine Cg (qM (pt g0 0) (hρ 0) (qM (pt g0 0) (hρ 0) (qu (pt g0 0) (Nk rfl) (qu (pt g0 1) (Fa fo110_1 rfl rfl) (qu (Iv a0.at_) (Lb 0 pl3 rfl rfl rfl) ?_)))))
 obtain ⟨r24, hr25, h⟩ := bnd h
 refine We (Cb co69 (f_wire_Reader_fail_ok a0 (⟨#[101, 110, 100]⟩ : ByteArray) a0.at_ (5 : Int) _ _ _ h0_0 r24 hr25) (args4 rfl rfl rfl rfl)) rfl ?_
 rintro _ M26 _ hle27 ⟨_, ⟨rfl, rfl⟩, rfl⟩
 refine WL.a1 (Wz ?_)
 obtain rfl := oi h
 exact Tj ⟨hle27, rfl, (hρ 0)⟩
 have h := ite_f hb23 h
 refine Ck ?_
 obtain rfl := oi h
 exact Tj ⟨lr, rfl, (hρ 0)⟩
 rintro ρ22 M22 H22 ⟨hle22, rfl, hs22_0⟩
 exact Sr (qM (pt g0 0) hs22_0 (qu (pt g0 0) (Nk rfl) (qu (pt g0 2) (Fa fo110_2 rfl rfl) (qu (GV x21) (Lb 0 pl31 rfl rfl rfl) (qa (GV x21) (Nt (Cr (Rf h [[(g0, .cells #[v0_0, (Iv a0.at_), (GV x21)] 110 (0, 0))]] rfl (Rs rfl rfl) hle22 ⟨rfl, rfl⟩))))))))


end Go.Proofs.YtkflneabcannnaaGreatDoor.G
