/- Go functions: what they come to, and that they do. Printed by a program of the session (gen). -/
import Derived.Test.YtkflneabcannnaaGreatDoorCF
import Derived.Test.YtkflneabcannnaaGreatDoorC0
import Derived.Test.YtkflneabcannnaaGreatDoorC2
import Derived.Test.YtkflneabcannnaaGreatDoorC9
import Derived.Test.YtkflneabcannnaaGreatDoorC10
import Derived.Test.YtkflneabcannnaaGreatDoorC13
import Derived.Test.YtkflneabcannnaaGreatDoorC14
import Derived.Test.YtkflneabcannnaaGreatDoorKConv
import Derived.Test.YtkflneabcannnaaGreatDoorKShar2
import Derived.Test.YtkflneabcannnaaGreatDoorKTight2
set_option linter.unusedVariables false
set_option linter.unusedSimpArgs false
set_option maxHeartbeats 8000000
set_option maxRecDepth 100000
namespace Go.Proofs.YtkflneabcannnaaGreatDoor.G
open Go Go.KK

noncomputable def f_ref07_Same (a0 : T_api_Rpc) (a1 : T_api_Rpc) : Option Bool :=
  (((if (decide (a0.Kind ≠ a1.Kind)) = true then (some true) else (if (decide (a0.From ≠ a1.From)) = true then (some true) else (if (decide (a0.To ≠ a1.To)) = true then (some true) else (if (decide (a0.Term ≠ a1.Term)) = true then (some true) else (if (!(a0.Pre == a1.Pre)) = true then (some true) else (if (!(a0.Ok == a1.Ok)) = true then (some true) else (some (decide (a0.Leader ≠ a1.Leader))))))))) : Option Bool).bind fun x23 => (if x23 = true then (some false) else (((if (decide (a0.At ≠ a1.At)) = true then (some true) else (if (decide (a0.AtTerm ≠ a1.AtTerm)) = true then (some true) else (if (decide (a0.High ≠ a1.High)) = true then (some true) else (if (decide (a0.Code ≠ a1.Code)) = true then (some true) else (if (decide (a0.Size ≠ a1.Size)) = true then (some true) else (some (decide (a0.Pos ≠ a1.Pos)))))))) : Option Bool).bind fun x32 => (if x32 = true then (some false) else ((((f_ref02_Same a0.Data a1.Data).bind fun r42 => (if r42 = true then ((f_ref06_All a0.Batches a1.Batches).bind fun r48 => (some r48)) else (some false))) : Option Bool).bind fun x40 => (some x40))))))
def f_ref07_Same_post (a0 : T_api_Rpc) (a1 : T_api_Rpc) (v0_11 v0_14 v1_11 v1_14 : Value) : Bool → Value → IM → HL → Prop :=
  fun (r0 : Bool) (v : Value) (M' : IM) (H' : HL) => (.bool r0) = v ∧ H' = []
theorem f_ref07_Same_ok (a0 : T_api_Rpc) (a1 : T_api_Rpc) (M : IM) (v0_11 v0_14 v1_11 v1_14 : Value) (h0_11 : RS kd_api_Batch M v0_11 a0.Batches) (h0_14 : RS (Kd.int .u8) M v0_14 a0.Data) (h1_11 : RS kd_api_Batch M v1_11 a1.Batches) (h1_14 : RS (Kd.int .u8) M v1_14 a1.Data) (res : Bool) (h : f_ref07_Same a0 a1 = some res) :
    Tri Tryz.prog 12 #[(a25_ a0 v0_11 v0_14), (a25_ a1 v1_11 v1_14)] M [] (f_ref07_Same_post a0 a1 v0_11 v0_14 v1_11 v1_14 res) := by
 unfold f_ref07_Same at h
 refine Te Tryz.func12 rfl rfl ?_
 intro F ρ hρ
 refine Sr (We (EO.box (cs := (l25 a0 v0_11 v0_14).toArray) (congrArg Value.cells (asE (a25_ a0 v0_11 v0_14) (hρ 0)))) rfl ?_)
 rintro _ _ _ - ⟨rfl, g21, rfl, rfl⟩
 refine We (EO.box (cs := (l25 a1 v1_11 v1_14).toArray) (congrArg Value.cells (asE (a25_ a1 v1_11 v1_14) (hρ 1)))) rfl ?_
 rintro _ _ _ - ⟨rfl, g22, rfl, rfl⟩
 refine qa (Bv false) (Nt (Cs ?_))
 obtain ⟨x23, hj24, h⟩ := bnd h
 refine Jf (fun (x23 : Bool) ρ' M' H' => M.le M' ∧ [(g22, .cells (l25 a1 v1_11 v1_14).toArray 25 (0, 0))] :: [(g21, .cells (l25 a0 v0_11 v0_14).toArray 25 (0, 0))] :: F = H' ∧ ρ' 2 = (pt g21 0) ∧ ρ' 3 = (pt g22 0) ∧ ρ' 51 = (Bv x23)) x23 ?_ ?_
 have h := hj24
 refine Cg (qu (pt g21 0) (Fa fo25_0 rfl rfl) (qu (Iv a0.Kind) (Lb 1 pl3 rfl rfl rfl) (qu (pt g22 0) (Fa fo25_0 rfl rfl) (qu (Iv a1.Kind) (Lb 0 pl3 rfl rfl rfl) (qu (Bv (decide (a0.Kind ≠ a1.Kind))) (PO.neq rfl rfl) (qm (Bv (decide (a0.Kind ≠ a1.Kind))) ?_))))))
 rcases Bt (decide (a0.Kind ≠ a1.Kind)) with hb25 | hb25
 have h := ite_t hb25 h
 iterate 5 refine Of 10 rfl rfl hb25 rfl ?_
 refine qu (Bv true) (Pt rfl hb25 rfl) (qm (Bv true) ?_)
 iterate 5 refine Of 17 rfl rfl rfl rfl ?_
 refine qu (Bv true) (Pt rfl rfl rfl) (qm (Bv true) ?_)
 iterate 5 refine Of 24 rfl rfl rfl rfl ?_
 refine qu (Bv true) (Pt rfl rfl rfl) (qm (Bv true) ?_)
 iterate 5 refine Of 31 rfl rfl rfl rfl ?_
 refine qu (Bv true) (Pt rfl rfl rfl) (qm (Bv true) ?_)
 iterate 5 refine Of 38 rfl rfl rfl rfl ?_
 refine qu (Bv true) (Pt rfl rfl rfl) (qm (Bv true) ?_)
 iterate 5 refine Of 45 rfl rfl rfl rfl ?_
 refine qu (Bv true) (Pt rfl rfl rfl) (Wz ?_)
 obtain rfl := oi h
 exact Tj ⟨lr, rfl, rfl, rfl, rfl⟩
 have h := ite_f hb25 h
 refine qo 10 hb25 (pt g21 1) (Fa fo25_1 rfl rfl) (qo 10 hb25 (Iv a0.From) (Lb 1 pl3 rfl rfl rfl) (qo 10 hb25 (pt g22 1) (Fa fo25_1 rfl rfl) (qo 10 hb25 (Iv a1.From) (Lb 0 pl3 rfl rfl rfl) (qo 10 hb25 (Bv (decide (a0.From ≠ a1.From))) (PO.neq rfl rfl) (qu (Bv (decide (a0.From ≠ a1.From))) (Pf rfl hb25 rfl) (qm (Bv (decide (a0.From ≠ a1.From))) ?_))))))
 rcases Bt (decide (a0.From ≠ a1.From)) with hb26 | hb26
 have h := ite_t hb26 h
 iterate 5 refine Of 17 rfl rfl hb26 rfl ?_
 refine qu (Bv true) (Pt rfl hb26 rfl) (qm (Bv true) ?_)
 iterate 5 refine Of 24 rfl rfl rfl rfl ?_
 refine qu (Bv true) (Pt rfl rfl rfl) (qm (Bv true) ?_)
 iterate 5 refine Of 31 rfl rfl rfl rfl ?_
 refine qu (Bv true) (Pt rfl rfl rfl) (qm (Bv true) ?_)
 iterate 5 refine Of 38 rfl rfl rfl rfl ?_
 refine qu (Bv true) (Pt rfl rfl rfl) (qm (Bv true) ?_)
 iterate 5 refine Of 45 rfl rfl rfl rfl ?_
 refine qu (Bv true) (Pt rfl rfl rfl) (Wz ?_)
 obtain rfl := oi h
 exact Tj ⟨lr, rfl, rfl, rfl, rfl⟩
 have h := ite_f hb26 h
 refine qo 17 hb26 (pt g21 2) (Fa fo25_2 rfl rfl) (qo 17 hb26 (Iv a0.To) (Lb 1 pl3 rfl rfl rfl) (qo 17 hb26 (pt g22 2) (Fa fo25_2 rfl rfl) (qo 17 hb26 (Iv a1.To) (Lb 0 pl3 rfl rfl rfl) (qo 17 hb26 (Bv (decide (a0.To ≠ a1.To))) (PO.neq rfl rfl) (qu (Bv (decide (a0.To ≠ a1.To))) (Pf rfl hb26 rfl) (qm (Bv (decide (a0.To ≠ a1.To))) ?_))))))
 rcases Bt (decide (a0.To ≠ a1.To)) with hb27 | hb27
 have h := ite_t hb27 h
 iterate 5 refine Of 24 rfl rfl hb27 rfl ?_
 refine qu (Bv true) (Pt rfl hb27 rfl) (qm (Bv true) ?_)
 iterate 5 refine Of 31 rfl rfl rfl rfl ?_
 refine qu (Bv true) (Pt rfl rfl rfl) (qm (Bv true) ?_)
 iterate 5 refine Of 38 rfl rfl rfl rfl ?_
 refine qu (Bv true) (Pt rfl rfl rfl) (qm (Bv true) ?_)
 iterate 5 refine Of 45 rfl rfl rfl rfl ?_
 refine qu (Bv true) (Pt rfl rfl rfl) (Wz ?_)
 obtain rfl := oi h
 exact Tj ⟨lr, rfl, rfl, rfl, rfl⟩
 have h := ite_f hb27 h
 refine qo 24 hb27 (pt g21 3) (Fa fo25_3 rfl rfl) (qo 24 hb27 (Iv a0.Term) (Lb 1 pl3 rfl rfl rfl) (qo 24 hb27 (pt g22 3) (Fa fo25_3 rfl rfl) (qo 24 hb27 (Iv a1.Term) (Lb 0 pl3 rfl rfl rfl) (qo 24 hb27 (Bv (decide (a0.Term ≠ a1.Term))) (PO.neq rfl rfl) (qu (Bv (decide (a0.Term ≠ a1.Term))) (Pf rfl hb27 rfl) (qm (Bv (decide (a0.Term ≠ a1.Term))) ?_))))))
 rcases Bt (decide (a0.Term ≠ a1.Term)) with hb28 | hb28
 have h := ite_t hb28 h
 iterate 5 refine Of 31 rfl rfl hb28 rfl ?_
 refine qu (Bv true) (Pt rfl hb28 rfl) (qm (Bv true) ?_)
 iterate 5 refine Of 38 rfl rfl rfl rfl ?_
 refine qu (Bv true) (Pt rfl rfl rfl) (qm (Bv true) ?_)
 iterate 5 refine Of 45 rfl rfl rfl rfl ?_
 refine qu (Bv true) (Pt rfl rfl rfl) (Wz ?_)
 obtain rfl := oi h
 exact Tj ⟨lr, rfl, rfl, rfl, rfl⟩
 have h := ite_f hb28 h
 refine qo 31 hb28 (pt g21 4) (Fa fo25_4 rfl rfl) (qo 31 hb28 (Bv a0.Pre) (Lb 1 pl4 rfl rfl rfl) (qo 31 hb28 (pt g22 4) (Fa fo25_4 rfl rfl) (qo 31 hb28 (Bv a1.Pre) (Lb 0 pl4 rfl rfl rfl) (qo 31 hb28 (Bv (!(a0.Pre == a1.Pre))) (PO.bneq Tryz.underlying4 rfl rfl) (qu (Bv (!(a0.Pre == a1.Pre))) (Pf rfl hb28 rfl) (qm (Bv (!(a0.Pre == a1.Pre))) ?_))))))
 rcases Bt (!(a0.Pre == a1.Pre)) with hb29 | hb29
 have h := ite_t hb29 h
 iterate 5 refine Of 38 rfl rfl hb29 rfl ?_
 refine qu (Bv true) (Pt rfl hb29 rfl) (qm (Bv true) ?_)
 iterate 5 refine Of 45 rfl rfl rfl rfl ?_
 refine qu (Bv true) (Pt rfl rfl rfl) (Wz ?_)
 obtain rfl := oi h
 exact Tj ⟨lr, rfl, rfl, rfl, rfl⟩
 have h := ite_f hb29 h
 refine qo 38 hb29 (pt g21 5) (Fa fo25_5 rfl rfl) (qo 38 hb29 (Bv a0.Ok) (Lb 1 pl4 rfl rfl rfl) (qo 38 hb29 (pt g22 5) (Fa fo25_5 rfl rfl) (qo 38 hb29 (Bv a1.Ok) (Lb 0 pl4 rfl rfl rfl) (qo 38 hb29 (Bv (!(a0.Ok == a1.Ok))) (PO.bneq Tryz.underlying4 rfl rfl) (qu (Bv (!(a0.Ok == a1.Ok))) (Pf rfl hb29 rfl) (qm (Bv (!(a0.Ok == a1.Ok))) ?_))))))
 rcases Bt (!(a0.Ok == a1.Ok)) with hb30 | hb30
 have h := ite_t hb30 h
 iterate 5 refine Of 45 rfl rfl hb30 rfl ?_
 refine qu (Bv true) (Pt rfl hb30 rfl) (Wz ?_)
 obtain rfl := oi h
 exact Tj ⟨lr, rfl, rfl, rfl, rfl⟩
 have h := ite_f hb30 h
 refine qo 45 hb30 (pt g21 6) (Fa fo25_6 rfl rfl) (qo 45 hb30 (Iv a0.Leader) (Lb 1 pl3 rfl rfl rfl) (qo 45 hb30 (pt g22 6) (Fa fo25_6 rfl rfl) (qo 45 hb30 (Iv a1.Leader) (Lb 0 pl3 rfl rfl rfl) (qo 45 hb30 (Bv (decide (a0.Leader ≠ a1.Leader))) (PO.neq rfl rfl) (qu (Bv (decide (a0.Leader ≠ a1.Leader))) (Pf rfl hb30 rfl) (Wz ?_))))))
 obtain rfl := oi h
 exact Tj ⟨lr, rfl, rfl, rfl, rfl⟩
 rintro ρ24 M24 H24 ⟨hle24, rfl, hs24_2, hs24_3, hs24_51⟩
 refine Cd (b := x23) hs24_51 (fun hb31 => ?_) (fun hb31 => ?_)
 have h := ite_t hb31 h
 exact Sr (qa (Bv false) (Nt (Cr (Tr (Dr (Dr (Rf h [] rfl (Rs rfl rfl) hle24 ⟨rfl, rfl⟩)))))))
 have h := ite_f hb31 h
 refine Ck (Tc (Cs ?_))
 obtain ⟨x32, hj33, h⟩ := bnd h
 refine Jf (fun (x32 : Bool) ρ' M' H' => M24.le M' ∧ [(g22, .cells (l25 a1 v1_11 v1_14).toArray 25 (0, 0))] :: [(g21, .cells (l25 a0 v0_11 v0_14).toArray 25 (0, 0))] :: F = H' ∧ ρ' 2 = (pt g21 0) ∧ ρ' 3 = (pt g22 0) ∧ ρ' 91 = (Bv x32)) x32 ?_ ?_
 have h := hj33
 refine Cg (qu (pt g21 7) (Fa fo25_7 hs24_2 rfl) (qu (Iv a0.At) (Lb 1 pl3 rfl rfl rfl) (qu (pt g22 7) (Fa fo25_7 hs24_3 rfl) (qu (Iv a1.At) (Lb 0 pl3 rfl rfl rfl) (qu (Bv (decide (a0.At ≠ a1.At))) (PO.neq rfl rfl) (qm (Bv (decide (a0.At ≠ a1.At))) ?_))))))
 rcases Bt (decide (a0.At ≠ a1.At)) with hb34 | hb34
 have h := ite_t hb34 h
 iterate 5 refine Of 57 rfl rfl hb34 rfl ?_
 refine qu (Bv true) (Pt rfl hb34 rfl) (qm (Bv true) ?_)
 iterate 5 refine Of 64 rfl rfl rfl rfl ?_
 refine qu (Bv true) (Pt rfl rfl rfl) (qm (Bv true) ?_)
 iterate 5 refine Of 71 rfl rfl rfl rfl ?_
 refine qu (Bv true) (Pt rfl rfl rfl) (qm (Bv true) ?_)
 iterate 5 refine Of 78 rfl rfl rfl rfl ?_
 refine qu (Bv true) (Pt rfl rfl rfl) (qm (Bv true) ?_)
 iterate 5 refine Of 85 rfl rfl rfl rfl ?_
 refine qu (Bv true) (Pt rfl rfl rfl) (Wz ?_)
 obtain rfl := oi h
 exact Tj ⟨lr, rfl, hs24_2, hs24_3, rfl⟩
 have h := ite_f hb34 h
 refine qo 57 hb34 (pt g21 8) (Fa fo25_8 hs24_2 rfl) (qo 57 hb34 (Iv a0.AtTerm) (Lb 1 pl3 rfl rfl rfl) (qo 57 hb34 (pt g22 8) (Fa fo25_8 hs24_3 rfl) (qo 57 hb34 (Iv a1.AtTerm) (Lb 0 pl3 rfl rfl rfl) (qo 57 hb34 (Bv (decide (a0.AtTerm ≠ a1.AtTerm))) (PO.neq rfl rfl) (qu (Bv (decide (a0.AtTerm ≠ a1.AtTerm))) (Pf rfl hb34 rfl) (qm (Bv (decide (a0.AtTerm ≠ a1.AtTerm))) ?_))))))
 rcases Bt (decide (a0.AtTerm ≠ a1.AtTerm)) with hb35 | hb35
 have h := ite_t hb35 h
 iterate 5 refine Of 64 rfl rfl hb35 rfl ?_
 refine qu (Bv true) (Pt rfl hb35 rfl) (qm (Bv true) ?_)
 iterate 5 refine Of 71 rfl rfl rfl rfl ?_
 refine qu (Bv true) (Pt rfl rfl rfl) (qm (Bv true) ?_)
 iterate 5 refine Of 78 rfl rfl rfl rfl ?_
 refine qu (Bv true) (Pt rfl rfl rfl) (qm (Bv true) ?_)
 iterate 5 refine Of 85 rfl rfl rfl rfl ?_
 refine qu (Bv true) (Pt rfl rfl rfl) (Wz ?_)
 obtain rfl := oi h
 exact Tj ⟨lr, rfl, hs24_2, hs24_3, rfl⟩
 have h := ite_f hb35 h
 refine qo 64 hb35 (pt g21 9) (Fa fo25_9 hs24_2 rfl) (qo 64 hb35 (Iv a0.High) (Lb 1 pl3 rfl rfl rfl) (qo 64 hb35 (pt g22 9) (Fa fo25_9 hs24_3 rfl) (qo 64 hb35 (Iv a1.High) (Lb 0 pl3 rfl rfl rfl) (qo 64 hb35 (Bv (decide (a0.High ≠ a1.High))) (PO.neq rfl rfl) (qu (Bv (decide (a0.High ≠ a1.High))) (Pf rfl hb35 rfl) (qm (Bv (decide (a0.High ≠ a1.High))) ?_))))))
 rcases Bt (decide (a0.High ≠ a1.High)) with hb36 | hb36
 have h := ite_t hb36 h
 iterate 5 refine Of 71 rfl rfl hb36 rfl ?_
 refine qu (Bv true) (Pt rfl hb36 rfl) (qm (Bv true) ?_)
 iterate 5 refine Of 78 rfl rfl rfl rfl ?_
 refine qu (Bv true) (Pt rfl rfl rfl) (qm (Bv true) ?_)
 iterate 5 refine Of 85 rfl rfl rfl rfl ?_
 refine qu (Bv true) (Pt rfl rfl rfl) (Wz ?_)
 obtain rfl := oi h
 exact Tj ⟨lr, rfl, hs24_2, hs24_3, rfl⟩
 have h := ite_f hb36 h
 refine qo 71 hb36 (pt g21 10) (Fa fo25_10 hs24_2 rfl) (qo 71 hb36 (Iv a0.Code) (Lb 1 pl3 rfl rfl rfl) (qo 71 hb36 (pt g22 10) (Fa fo25_10 hs24_3 rfl) (qo 71 hb36 (Iv a1.Code) (Lb 0 pl3 rfl rfl rfl) (qo 71 hb36 (Bv (decide (a0.Code ≠ a1.Code))) (PO.neq rfl rfl) (qu (Bv (decide (a0.Code ≠ a1.Code))) (Pf rfl hb36 rfl) (qm (Bv (decide (a0.Code ≠ a1.Code))) ?_))))))
 rcases Bt (decide (a0.Code ≠ a1.Code)) with hb37 | hb37
 have h := ite_t hb37 h
 iterate 5 refine Of 78 rfl rfl hb37 rfl ?_
 refine qu (Bv true) (Pt rfl hb37 rfl) (qm (Bv true) ?_)
 iterate 5 refine Of 85 rfl rfl rfl rfl ?_
 refine qu (Bv true) (Pt rfl rfl rfl) (Wz ?_)
 obtain rfl := oi h
 exact Tj ⟨lr, rfl, hs24_2, hs24_3, rfl⟩
 have h := ite_f hb37 h
 refine qo 78 hb37 (pt g21 12) (Fa fo25_12 hs24_2 rfl) (qo 78 hb37 (Iv a0.Size) (Lb 1 pl3 rfl rfl rfl) (qo 78 hb37 (pt g22 12) (Fa fo25_12 hs24_3 rfl) (qo 78 hb37 (Iv a1.Size) (Lb 0 pl3 rfl rfl rfl) (qo 78 hb37 (Bv (decide (a0.Size ≠ a1.Size))) (PO.neq rfl rfl) (qu (Bv (decide (a0.Size ≠ a1.Size))) (Pf rfl hb37 rfl) (qm (Bv (decide (a0.Size ≠ a1.Size))) ?_))))))
 rcases Bt (decide (a0.Size ≠ a1.Size)) with hb38 | hb38
 have h := ite_t hb38 h
 iterate 5 refine Of 85 rfl rfl hb38 rfl ?_
 refine qu (Bv true) (Pt rfl hb38 rfl) (Wz ?_)
 obtain rfl := oi h
 exact Tj ⟨lr, rfl, hs24_2, hs24_3, rfl⟩
 have h := ite_f hb38 h
 refine qo 85 hb38 (pt g21 13) (Fa fo25_13 hs24_2 rfl) (qo 85 hb38 (Iv a0.Pos) (Lb 1 pl3 rfl rfl rfl) (qo 85 hb38 (pt g22 13) (Fa fo25_13 hs24_3 rfl) (qo 85 hb38 (Iv a1.Pos) (Lb 0 pl3 rfl rfl rfl) (qo 85 hb38 (Bv (decide (a0.Pos ≠ a1.Pos))) (PO.neq rfl rfl) (qu (Bv (decide (a0.Pos ≠ a1.Pos))) (Pf rfl hb38 rfl) (Wz ?_))))))
 obtain rfl := oi h
 exact Tj ⟨lr, rfl, hs24_2, hs24_3, rfl⟩
 rintro ρ33 M33 H33 ⟨hle33, rfl, hs33_2, hs33_3, hs33_91⟩
 refine Cd (b := x32) hs33_91 (fun hb39 => ?_) (fun hb39 => ?_)
 have h := ite_t hb39 h
 exact Sr (qa (Bv false) (Nt (Cr (Tr (Dr (Dr (Rf h [] rfl (Rs rfl rfl) (hle24.trans hle33) ⟨rfl, rfl⟩)))))))
 have h := ite_f hb39 h
 refine Ck (Tc ?_)
 obtain ⟨x40, hj41, h⟩ := bnd h
 refine Jf (fun (x40 : Bool) ρ' M' H' => M33.le M' ∧ [(g22, .cells (l25 a1 v1_11 v1_14).toArray 25 (0, 0))] :: [(g21, .cells (l25 a0 v0_11 v0_14).toArray 25 (0, 0))] :: F = H' ∧ ρ' 4 = (Bv x40)) x40 ?_ ?_
 have h := hj41
 refine Cg (qu (pt g21 14) (Fa fo25_14 hs33_2 rfl) (qu v0_14 (Lb 1 pl23 rfl rfl rfl) (qu (pt g22 14) (Fa fo25_14 hs33_3 rfl) (qu v1_14 (Lb 0 pl23 rfl rfl rfl) ?_))))
 obtain ⟨r42, hr43, h⟩ := bnd h
 have h0_14 := h0_14.mono (hle24.trans hle33)
 have h1_14 := h1_14.mono (hle24.trans hle33)
 refine We (Ca co13 (f_ref02_Same_ok a0.Data a1.Data _ _ _ h0_14 h1_14 r42 hr43) (args2 rfl rfl)) rfl ?_
 rintro _ M44 _ hle45 ⟨_, ⟨rfl, rfl⟩, rfl⟩
 refine WL.a0 (qm (Bv r42) ?_)
 rcases Bt (r42) with hb47 | hb47
 have h := ite_t hb47 h
 refine qo 97 hb47 (pt g21 11) (Fa fo25_11 hs33_2 rfl) (qo 97 hb47 v0_11 (Lb 1 pl22 rfl rfl rfl) (qo 97 hb47 (pt g22 11) (Fa fo25_11 hs33_3 rfl) (qo 97 hb47 v1_11 (Lb 0 pl22 rfl rfl rfl) (On 97 rfl rfl hb47 ?_))))
 obtain ⟨r48, hr49, h⟩ := bnd h
 have h0_11 := h0_11.mono ((hle24.trans hle33).trans hle45)
 have h1_11 := h1_11.mono ((hle24.trans hle33).trans hle45)
 refine We (Ca co39 (f_ref06_All_ok a0.Batches a1.Batches _ _ _ h0_11 h1_11 r48 hr49) (args2 rfl rfl)) rfl ?_
 rintro _ M50 _ hle51 ⟨_, ⟨rfl, rfl⟩, rfl⟩
 refine WL.a0 (qu (Bv r48) (Pt rfl hb47 rfl) (qa (Bv r48) (Wz ?_)))
 obtain rfl := oi h
 exact Tj ⟨(hle45.trans hle51), rfl, rfl⟩
 have h := ite_f hb47 h
 iterate 5 refine Of 97 rfl rfl hb47 rfl ?_
 refine qu (Bv false) (Pf rfl hb47 rfl) (qa (Bv false) (Wz ?_))
 obtain rfl := oi h
 exact Tj ⟨hle45, rfl, rfl⟩
 rintro ρ41 M41 H41 ⟨hle41, rfl, hs41_4⟩
 exact Cr (Dr (Dr (Rf h [] rfl (Rs rfl hs41_4) ((hle24.trans hle33).trans hle41) ⟨rfl, rfl⟩)))

noncomputable def f_law07_RpcChecks (a0 : T_api_Rpc) (a1 : T_api_Rpc) : Option Bool :=
  ((((f_ref07_Short a0).bind fun r25 => (if (!r25) = true then (some true) else ((f_ref07_Short a1).bind fun r31 => (some (!r31))))) : Option Bool).bind fun x23 => (if x23 = true then ((f_law07_works).bind fun r37 => (some r37)) else ((((f_rpc_Check a0).bind fun r44 => ((f_ref07_Check a0).bind fun r49 => ((f_law07_wrong r44 r49).bind fun r54 => (if r54 = true then ((f_rpc_Same a0 a1).bind fun r60 => ((f_ref07_Same a0 a1).bind fun r65 => (if (r60 == r65) = true then ((f_rpc_Copy a0).bind fun r71 => ((f_ref07_Same r71 a0).bind fun r76 => (if r76 = true then ((f_law07_works).bind fun r88 => (some r88)) else (some false)))) else (some false)))) else (some false))))) : Option Bool).bind fun x42 => (some x42))))
def f_law07_RpcChecks_post (a0 : T_api_Rpc) (a1 : T_api_Rpc) (v0_11 v0_14 v1_11 v1_14 : Value) : Bool → Value → IM → HL → Prop :=
  fun (r0 : Bool) (v : Value) (M' : IM) (H' : HL) => (.bool r0) = v ∧ H' = []
theorem f_law07_RpcChecks_ok (a0 : T_api_Rpc) (a1 : T_api_Rpc) (M : IM) (v0_11 v0_14 v1_11 v1_14 : Value) (h0_11 : RS kd_api_Batch M v0_11 a0.Batches) (h0_14 : RS (Kd.int .u8) M v0_14 a0.Data) (h1_11 : RS kd_api_Batch M v1_11 a1.Batches) (h1_14 : RS (Kd.int .u8) M v1_14 a1.Data) (hE : Env M) (res : Bool) (h : f_law07_RpcChecks a0 a1 = some res) :
    Tri Tryz.prog 5 #[(a25_ a0 v0_11 v0_14), (a25_ a1 v1_11 v1_14)] M [] (f_law07_RpcChecks_post a0 a1 v0_11 v0_14 v1_11 v1_14 res) := by
 unfold f_law07_RpcChecks at h
 refine Te Tryz.func5 rfl rfl ?_
 intro F ρ hρ
 refine Sr (We (EO.box (cs := (l25 a0 v0_11 v0_14).toArray) (congrArg Value.cells (asE (a25_ a0 v0_11 v0_14) (hρ 0)))) rfl ?_)
 rintro _ _ _ - ⟨rfl, g21, rfl, rfl⟩
 refine We (EO.box (cs := (l25 a1 v1_11 v1_14).toArray) (congrArg Value.cells (asE (a25_ a1 v1_11 v1_14) (hρ 1)))) rfl ?_
 rintro _ _ _ - ⟨rfl, g22, rfl, rfl⟩
 refine qa (Bv false) (Nt (Cs ?_))
 obtain ⟨x23, hj24, h⟩ := bnd h
 refine Jf (fun (x23 : Bool) ρ' M' H' => M.le M' ∧ [(g22, .cells (l25 a1 v1_11 v1_14).toArray 25 (0, 0))] :: [(g21, .cells (l25 a0 v0_11 v0_14).toArray 25 (0, 0))] :: F = H' ∧ ρ' 2 = (pt g21 0) ∧ ρ' 3 = (pt g22 0) ∧ ρ' 12 = (Bv x23)) x23 ?_ ?_
 have h := hj24
 refine Cg (qu (a25_ a0 v0_11 v0_14) (La (cs := (l25 a0 v0_11 v0_14)) 1 ag25 sz25 rfl rfl rfl) ?_)
 obtain ⟨r25, hr26, h⟩ := bnd h
 refine We (Ca co8 (f_ref07_Short_ok a0 _ _ _ h0_11 h0_14 r25 hr26) (args1 rfl)) rfl ?_
 rintro _ M27 _ hle28 ⟨_, ⟨rfl, rfl⟩, rfl⟩
 refine WL.a0 (qu (Bv (!r25)) (PO.not rfl) (qm (Bv (!r25)) ?_))
 rcases Bt (!r25) with hb30 | hb30
 have h := ite_t hb30 h
 iterate 3 refine Of 8 rfl rfl hb30 rfl ?_
 refine qu (Bv true) (Pt rfl hb30 rfl) (Wz ?_)
 obtain rfl := oi h
 exact Tj ⟨hle28, rfl, rfl, rfl, rfl⟩
 have h := ite_f hb30 h
 refine qo 8 hb30 (a25_ a1 v1_11 v1_14) (La (cs := (l25 a1 v1_11 v1_14)) 0 ag25 sz25 rfl rfl rfl) (On 8 rfl rfl hb30 ?_)
 obtain ⟨r31, hr32, h⟩ := bnd h
 have h1_11 := h1_11.mono hle28
 have h1_14 := h1_14.mono hle28
 refine We (Ca co8 (f_ref07_Short_ok a1 _ _ _ h1_11 h1_14 r31 hr32) (args1 rfl)) rfl ?_
 rintro _ M33 _ hle34 ⟨_, ⟨rfl, rfl⟩, rfl⟩
 refine WL.a0 (qo 8 hb30 (Bv (!r31)) (PO.not rfl) (qu (Bv (!r31)) (Pf rfl hb30 rfl) (Wz ?_)))
 obtain rfl := oi h
 exact Tj ⟨(hle28.trans hle34), rfl, rfl, rfl, rfl⟩
 rintro ρ24 M24 H24 ⟨hle24, rfl, hs24_2, hs24_3, hs24_12⟩
 refine Cd (b := x23) hs24_12 (fun hb36 => ?_) (fun hb36 => ?_)
 have h := ite_t hb36 h
 refine Sr ?_
 obtain ⟨r37, hr38, h⟩ := bnd h
 have hE := hE.mono hle24
 refine We (Ca co9 (f_law07_works_ok _ hE r37 hr38) (args0)) rfl ?_
 rintro _ M39 _ hle40 ⟨_, ⟨rfl, rfl⟩, rfl⟩
 exact WL.a0 (qa (Bv r37) (Nt (Cr (Tr (Dr (Dr (Rf h [] rfl (Rs rfl rfl) (hle24.trans hle40) ⟨rfl, rfl⟩)))))))
 have h := ite_f hb36 h
 refine Ck (Tc ?_)
 obtain ⟨x42, hj43, h⟩ := bnd h
 refine Jf (fun (x42 : Bool) ρ' M' H' => M24.le M' ∧ [(g22, .cells (l25 a1 v1_11 v1_14).toArray 25 (0, 0))] :: [(g21, .cells (l25 a0 v0_11 v0_14).toArray 25 (0, 0))] :: F = H' ∧ ρ' 4 = (Bv x42)) x42 ?_ ?_
 have h := hj43
 refine WC.draw [0, 1, 0, 7, 15, 31, 63, 63, 255, 63, 63, 2047, 4095, 8191, 16383, 32767, 65535, 32767, 262143, 524287, 1048575, 2097151, 4194303, 8388607] (.pure 0 (.pure 2 (.alt 1 (.alt 3 (.alt 4 (.pure 5 (.pure 6 (.pure 7 (.pure 9 (.pure 10 (.alt 8 (.alt 11 (.pure 12 (.pure 13 (.pure 14 (.pure 15 (.pure 17 (.alt 16 (.alt 18 (.pure 19 (.pure 20 (.alt 21 (.pure 22 (.pure 23 .done)) .none))) .none) .none)))))) .none) .none)))))) .none) .none) .none))) mixed (by kernel_rfl) (qt (a25_ a0 v0_11 v0_14) rfl (La (cs := (l25 a0 v0_11 v0_14)) 1 ag25 sz25 hs24_2 rfl rfl) (qt (a25_ a0 v0_11 v0_14) rfl (La (cs := (l25 a0 v0_11 v0_14)) 1 ag25 sz25 hs24_2 rfl rfl) ?_))
 obtain ⟨r44, hr45, h⟩ := bnd h
 have h0_11 := h0_11.mono hle24
 have h0_14 := h0_14.mono hle24
 refine Ta rfl (Ca co16 (f_rpc_Check_ok a0 _ _ _ h0_11 h0_14 r44 hr45) (args1 rfl)) rfl ?_ ?_
 rintro _ M46 _ hle47 ⟨_, ⟨rfl, rfl⟩, rfl⟩
 refine ⟨(Ss rfl (La (cs := (l25 a0 v0_11 v0_14)) 1 ag25 sz25 hs24_2 rfl rfl) rfl (Sl rfl)), ?_⟩
 refine WT.a0 ?_
 obtain ⟨r49, hr50, h⟩ := bnd h
 have h0_11 := h0_11.mono hle47
 have h0_14 := h0_14.mono hle47
 refine Ta rfl (Ca co14 (f_ref07_Check_ok a0 _ _ _ h0_11 h0_14 r49 hr50) (args1 rfl)) rfl ?_ ?_
 rintro _ M51 _ hle52 ⟨_, ⟨rfl, rfl⟩, rfl⟩
 refine ⟨(Sl rfl), ?_⟩
 refine WT.a0 ?_
 obtain ⟨r54, hr55, h⟩ := bnd h
 have hE := hE.mono ((hle24.trans hle47).trans hle52)
 refine Ta rfl (Ca co15 (f_law07_wrong_ok r44 r49 _ hE r54 hr55) (args2 rfl rfl)) rfl ?_ ?_
 rintro _ M56 _ hle57 ⟨_, ⟨rfl, rfl⟩, rfl⟩
 have L57 := (hle47.trans hle52).trans hle57
 refine ⟨(Sl rfl), ?_⟩
 refine WT.a0 (qt (Bv r54) rfl (Mv rfl) ?_)
 rcases Bt (r54) with hb59 | hb59
 have h := ite_t hb59 h
 refine Tn (a25_ a0 v0_11 v0_14) 19 rfl rfl rfl hb59 (La (cs := (l25 a0 v0_11 v0_14)) 1 ag25 sz25 hs24_2 rfl rfl) rfl (Tn (a25_ a1 v1_11 v1_14) 19 rfl rfl rfl hb59 (La (cs := (l25 a1 v1_11 v1_14)) 0 ag25 sz25 hs24_3 rfl rfl) rfl (Tn (a25_ a0 v0_11 v0_14) 19 rfl rfl rfl hb59 (La (cs := (l25 a0 v0_11 v0_14)) 1 ag25 sz25 hs24_2 rfl rfl) rfl (Tn (a25_ a1 v1_11 v1_14) 19 rfl rfl rfl hb59 (La (cs := (l25 a1 v1_11 v1_14)) 0 ag25 sz25 hs24_3 rfl rfl) rfl ?_)))
 obtain ⟨r60, hr61, h⟩ := bnd h
 have h0_11 := h0_11.mono (hle52.trans hle57)
 have h0_14 := h0_14.mono (hle52.trans hle57)
 have h1_11 := h1_11.mono (((hle24.trans hle47).trans hle52).trans hle57)
 have h1_14 := h1_14.mono (((hle24.trans hle47).trans hle52).trans hle57)
 refine WT.altOn 19 rfl rfl rfl hb59 (Ca co17 (f_rpc_Same_ok a0 a1 _ _ _ _ _ h0_11 h0_14 h1_11 h1_14 r60 hr61) (args2 rfl rfl)) rfl ?_ ?_
 rintro _ M62 _ hle63 ⟨_, ⟨rfl, rfl⟩, rfl⟩
 have L63 := L57.trans hle63
 refine ⟨(St (StabA.on 19 rfl rfl rfl hb59 (La (cs := (l25 a1 v1_11 v1_14)) 0 ag25 sz25 hs24_3 rfl rfl) rfl) (St (StabA.on 19 rfl rfl rfl hb59 (La (cs := (l25 a0 v0_11 v0_14)) 1 ag25 sz25 hs24_2 rfl rfl) rfl) (Sl rfl))), ?_⟩
 refine WT.a0 ?_
 obtain ⟨r65, hr66, h⟩ := bnd h
 have h0_11 := h0_11.mono hle63
 have h0_14 := h0_14.mono hle63
 have h1_11 := h1_11.mono hle63
 have h1_14 := h1_14.mono hle63
 refine WT.altOn 19 rfl rfl rfl hb59 (Ca co12 (f_ref07_Same_ok a0 a1 _ _ _ _ _ h0_11 h0_14 h1_11 h1_14 r65 hr66) (args2 rfl rfl)) rfl ?_ ?_
 rintro _ M67 _ hle68 ⟨_, ⟨rfl, rfl⟩, rfl⟩
 have L68 := L63.trans hle68
 refine ⟨(Sl rfl), ?_⟩
 refine WT.a0 (Tn (Bv (r60 == r65)) 19 rfl rfl rfl hb59 (PO.beql Tryz.underlying4 rfl rfl) rfl (qt (Bv (r60 == r65)) rfl (Pt rfl hb59 rfl) (qt (Bv (r60 == r65)) rfl (Mv rfl) ?_)))
 rcases Bt (r60 == r65) with hb70 | hb70
 have h := ite_t hb70 h
 refine Tn (a25_ a0 v0_11 v0_14) 28 rfl rfl rfl hb70 (La (cs := (l25 a0 v0_11 v0_14)) 1 ag25 sz25 hs24_2 rfl rfl) rfl (Tn (a25_ a0 v0_11 v0_14) 28 rfl rfl rfl hb70 (La (cs := (l25 a0 v0_11 v0_14)) 1 ag25 sz25 hs24_2 rfl rfl) rfl ?_)
 obtain ⟨r71, hr72, h⟩ := bnd h
 have h0_11 := h0_11.mono hle68
 have h0_14 := h0_14.mono hle68
 refine WT.altOn 28 rfl rfl rfl hb70 (Ca co18 (f_rpc_Copy_ok a0 _ _ _ h0_11 h0_14 r71 hr72) (args1 rfl)) rfl ?_ ?_
 rintro _ M73 _ hle74 ⟨_, ⟨vq75_11, cq75_11, vq75_14, cq75_14, rfl, rfl, hq75_11, hq75_14⟩, rfl⟩
 refine ⟨(St (StabA.on 28 rfl rfl rfl hb70 (La (cs := (l25 a0 v0_11 v0_14)) 3 ag25 sz25 hs24_2 rfl rfl) rfl) (Sl rfl)), ?_⟩
 refine WT.a2 ?_
 obtain ⟨r76, hr77, h⟩ := bnd h
 refine WT.f1 (WT.f1 ?_)
 have h0_11 := h0_11.mono hle74
 have h0_14 := h0_14.mono hle74
 refine WT.altOn 28 rfl rfl rfl hb70 (EO.call2 co12 (Tri.lend hq75_11.excl fun w0_ H0_ hs0_ => (Tri.lend hq75_14.excl fun w1_ H1_ hs1_ => (f_ref07_Same_ok r71 a0 _ _ _ _ _ ((hq75_11.rs hs0_).mono (IM.le_add _ _)) ((hq75_14.mono (IM.le_add _ _)).rs hs1_) ((h0_11.mono (IM.le_add _ _)).mono (IM.le_add _ _)) ((h0_14.mono (IM.le_add _ _)).mono (IM.le_add _ _)) r76 hr77))) (args2 rfl rfl)) rfl ?_ ?_
 rintro _ _ _ hle79 ⟨_, ⟨Ml84, Hl85, hll86, rfl, rfl, ⟨Ml81, Hl82, hll83, rfl, rfl, ⟨rfl, rfl⟩⟩⟩, rfl⟩
 refine ⟨(Sl rfl), ?_⟩
 refine WT.a2 (qt (Bv r76) rfl (Pt rfl hb70 rfl) (qt (Bv r76) rfl (Mv rfl) ?_))
 rcases Bt (r76) with hb87 | hb87
 have h := ite_t hb87 h
 obtain ⟨r88, hr89, h⟩ := bnd h
 have hE := hE.mono ((((hle57.trans hle63).trans hle68).trans hle74).trans hle79)
 refine WT.altOn 34 rfl rfl rfl hb87 (Ca co9 (f_law07_works_ok _ hE r88 hr89) (args0)) rfl ?_ ?_
 rintro _ M90 _ hle91 ⟨_, ⟨rfl, rfl⟩, rfl⟩
 refine ⟨(Sl rfl), ?_⟩
 refine WT.a0 (qt (Bv r88) rfl (Pt rfl hb87 rfl) (qt (Bv r88) rfl (Ag rfl) (Ti (Dr (Dr ?_)))))
 obtain rfl := oi h
 exact Tj ⟨(((L68.trans hle74).trans hle79).trans hle91), rfl, rfl⟩
 exact Tz
 have h := ite_f hb87 h
 refine Tg 34 rfl rfl rfl hb87 rfl ⟨(Sl rfl), ?_⟩ ?_
 refine qt (Bv false) rfl (Pf rfl hb87 rfl) (qt (Bv false) rfl (Ag rfl) (Ti (Dr (Dr ?_))))
 obtain rfl := oi h
 exact Tj ⟨((L68.trans hle74).trans hle79), rfl, rfl⟩
 exact Tz
 exact Tz
 exact Tz
 have h := ite_f hb70 h
 refine Tf 28 rfl rfl rfl hb70 rfl (Tf 28 rfl rfl rfl hb70 rfl (Tg 28 rfl rfl rfl hb70 rfl ⟨(St (Sf 28 rfl rfl rfl hb70 rfl) (Sl rfl)), ?_⟩ ?_))
 refine Tg 28 rfl rfl rfl hb70 rfl ⟨(Sl rfl), ?_⟩ ?_
 refine qt (Bv false) rfl (Pf rfl hb70 rfl) (qt (Bv false) rfl (Mv rfl) (Tg 34 rfl rfl rfl rfl rfl ⟨(Sl rfl), ?_⟩ ?_))
 refine qt (Bv false) rfl (Pf rfl rfl rfl) (qt (Bv false) rfl (Ag rfl) (Ti ?_))
 obtain rfl := oi h
 exact Tj ⟨L68, rfl, rfl⟩
 exact Tz
 exact Tz
 exact Tz
 exact Tz
 exact Tz
 have h := ite_f hb59 h
 refine Tf 19 rfl rfl rfl hb59 rfl (Tf 19 rfl rfl rfl hb59 rfl (Tf 19 rfl rfl rfl hb59 rfl (Tf 19 rfl rfl rfl hb59 rfl (Tg 19 rfl rfl rfl hb59 rfl ⟨(St (Sf 19 rfl rfl rfl hb59 rfl) (St (Sf 19 rfl rfl rfl hb59 rfl) (Sl rfl))), ?_⟩ ?_))))
 refine Tg 19 rfl rfl rfl hb59 rfl ⟨(Sl rfl), ?_⟩ ?_
 refine Tf 19 rfl rfl rfl hb59 rfl (qt (Bv false) rfl (Pf rfl hb59 rfl) (qt (Bv false) rfl (Mv rfl) (Tf 28 rfl rfl rfl rfl rfl (Tf 28 rfl rfl rfl rfl rfl (Tg 28 rfl rfl rfl rfl rfl ⟨(St (Sf 28 rfl rfl rfl rfl rfl) (Sl rfl)), ?_⟩ ?_)))))
 refine Tg 28 rfl rfl rfl rfl rfl ⟨(Sl rfl), ?_⟩ ?_
 refine qt (Bv false) rfl (Pf rfl rfl rfl) (qt (Bv false) rfl (Mv rfl) (Tg 34 rfl rfl rfl rfl rfl ⟨(Sl rfl), ?_⟩ ?_))
 refine qt (Bv false) rfl (Pf rfl rfl rfl) (qt (Bv false) rfl (Ag rfl) (Ti ?_))
 obtain rfl := oi h
 exact Tj ⟨L57, rfl, rfl⟩
 exact Tz
 exact Tz
 exact Tz
 exact Tz
 exact Tz
 exact Tz
 exact Tz
 exact Tz
 rintro ρ43 M43 H43 ⟨hle43, rfl, hs43_4⟩
 exact Cr (Dr (Dr (Rf h [] rfl (Rs rfl hs43_4) (hle24.trans hle43) ⟨rfl, rfl⟩)))


end Go.Proofs.YtkflneabcannnaaGreatDoor.G
