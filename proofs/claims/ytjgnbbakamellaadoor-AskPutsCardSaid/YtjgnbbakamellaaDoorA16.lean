/- Go functions: what they come to, and that they do. Printed by a program of the session (gen). -/
import Derived.Test.YtjgnbbakamellaaDoorAF
import Derived.Test.YtjgnbbakamellaaDoorA15
import Derived.Test.YtjgnbbakamellaaDoorKConv
import Derived.Test.YtjgnbbakamellaaDoorKEq2
set_option linter.unusedVariables false
set_option linter.unusedSimpArgs false
namespace Go.Proofs.YtjgnbbakamellaaDoor.G
open Go Go.KK

noncomputable def f_law22_AskPuts (a0 : T_api_Request) (a1 : T_api_Reply) : Option Bool :=
  ((f_ref20_Short a0).bind fun (r23 : Bool) => (if (!r23) = true then ((f_law22_works).bind fun (r29 : Bool) => (some r29)) else ((f_ask_Put a0).bind fun (r34, r35) => ((f_ref22_Check a0).bind fun (r42 : T_ref22_Wrong) => ((((f_law22_wrong r35 r42).bind fun (r50 : Bool) => (if (!r50) = true then (some true) else (if (decide (r42.Code = (0 : Int))) = true then (if (decide (r34.Kind ≠ (16 : Int))) = true then (some true) else ((f_ref22_Bytes a0).bind fun (r58 : (List Int)) => ((f_ref02_Same r34.Body r58).bind fun (r63 : Bool) => (if (!r63) = true then (some true) else (if (decide (r42.Code ≠ (0 : Int))) = true then (some (decide ((0 : Int) < (r34.Body.length : Int)))) else (some false)))))) else (if (decide (r42.Code ≠ (0 : Int))) = true then (some (decide ((0 : Int) < (r34.Body.length : Int)))) else (some false))))) : Option Bool).bind fun (x48 : Bool) => (if x48 = true then (some false) else ((f_ask_PutReply a1).bind fun (r78, r79) => ((f_ref22_CheckReply a1).bind fun (r86 : T_ref22_Wrong) => ((((f_law22_wrong r79 r86).bind fun (r94 : Bool) => (if (!r94) = true then (some true) else (if (decide (r86.Code = (0 : Int))) = true then (if (decide (r78.Kind ≠ (17 : Int))) = true then (some true) else ((f_ref22_ReplyBytes a1).bind fun (r102 : (List Int)) => ((f_ref02_Same r78.Body r102).bind fun (r107 : Bool) => (if (!r107) = true then (some true) else (if (decide (r86.Code ≠ (0 : Int))) = true then (some (decide ((0 : Int) < (r78.Body.length : Int)))) else (some false)))))) else (if (decide (r86.Code ≠ (0 : Int))) = true then (some (decide ((0 : Int) < (r78.Body.length : Int)))) else (some false))))) : Option Bool).bind fun (x92 : Bool) => (if x92 = true then (some false) else ((f_law22_works).bind fun (r122 : Bool) => (some r122))))))))))))
def f_law22_AskPuts_post (a0 : T_api_Request) (a1 : T_api_Reply) (v0_10 : Value) : Bool → Value → IM → HL → Prop :=
  fun (r0 : Bool) (v : Value) (M' : IM) (H' : HL) => (.bool r0) = v ∧ H' = []
set_option maxHeartbeats 8000000 in
set_option maxRecDepth 100000 in
theorem f_law22_AskPuts_ok (a0 : T_api_Request) (a1 : T_api_Reply) (M : IM) (v0_10 : Value) (h0_10 : RS (Kd.int .i64) M v0_10 a0.Ids) (hE : Env M) (res : Bool) (h : f_law22_AskPuts a0 a1 = some res) :
    Tri Tryd.prog 9 #[(a68_ a0 v0_10), (a72_ a1)] M [] (f_law22_AskPuts_post a0 a1 v0_10 res) := by
 unfold f_law22_AskPuts at h
 refine Tri.enter (fn := Tryd.f9) Tryd.func9 rfl (Nat.le_of_ble_eq_true rfl) ?_
 intro F ρ hρ
 refine Sr ?_
 refine WL.eff (EO.box (cs := (l68 a0 v0_10).toArray) (congrArg Value.cells (asE (a68_ a0 v0_10) (hρ 0)))) rfl ?_
 rintro _ _ _ - ⟨rfl, g21, rfl, rfl⟩
 refine WL.eff (EO.box (cs := (l72 a1).toArray) (congrArg Value.cells (asE (a72_ a1) (hρ 1)))) rfl ?_
 rintro _ _ _ - ⟨rfl, g22, rfl, rfl⟩
 refine Pa (.bool false) rfl rfl ?_
 refine Nt ?_
 refine WC.seq ?_
 refine Sr ?_
 refine Pu (a68_ a0 v0_10) (PO.loadBA (cs := (l68 a0 v0_10)) 1 ag68 sz68 rfl rfl rfl) rfl ?_
 obtain ⟨r23, hr24, h⟩ := bnd h
 refine WL.eff (EO.call0 co27 (f_ref20_Short_ok a0 _ _ h0_10 r23 hr24) (args1 rfl)) rfl ?_
 rintro _ M25 _ hle26 ⟨_, ⟨rfl, rfl⟩, rfl⟩
 have h0_10 := h0_10.mono hle26
 have hE := hE.mono hle26
 refine WL.a0 ?_
 refine Pu (.bool (!r23)) (PO.not rfl) rfl ?_
 refine Nt ?_
 refine WC.cond (b := !r23) rfl (fun hb28 => ?_) (fun hb28 => ?_)
 have h := ite_t hb28 h
 refine Sr ?_
 obtain ⟨r29, hr30, h⟩ := bnd h
 refine WL.eff (EO.call0 co28 (f_law22_works_ok _ r29 hr30) (args0)) rfl ?_
 rintro _ M31 _ hle32 ⟨_, ⟨rfl, rfl⟩, rfl⟩
 have h0_10 := h0_10.mono hle32
 have hE := hE.mono hle32
 refine WL.a0 ?_
 refine Pa (.bool r29) rfl rfl ?_
 refine Nt ?_
 refine WC.ret ?_
 refine WQ.thenR ?_
 refine WQ.drop ?_
 refine WQ.drop ?_
 exact WQ.returnsF h [] rfl (results1 rfl rfl) (hle26.trans hle32) ⟨rfl, rfl⟩
 have h := ite_f hb28 h
 refine WC.skip ?_
 refine WQ.thenC ?_
 refine Sr ?_
 refine Pu (a68_ a0 v0_10) (PO.loadBA (cs := (l68 a0 v0_10)) 1 ag68 sz68 rfl rfl rfl) rfl ?_
 obtain ⟨⟨r34, r35⟩, hr36, h⟩ := bnd h
 refine WL.eff (EO.call0 co36 (f_ask_Put_ok a0 _ _ h0_10 (r34, r35) hr36) (args1 rfl)) rfl ?_
 rintro _ M37 _ hle38 ⟨_, ⟨vq39_1, cq39_1, rfl, rfl, hq39_1⟩, rfl⟩
 have h0_10 := h0_10.mono hle38
 have hE := hE.mono hle38
 refine WL.a1 ?_
 refine Pm (.tuple #[(.agg #[(.int .i64 r34.Kind), vq39_1]), (GV r35)]) rfl rfl ?_
 refine Pu (.agg #[(.int .i64 r34.Kind), vq39_1]) (PO.extract rfl rfl) rfl ?_
 refine Pu (GV r35) (PO.extract rfl rfl) rfl ?_
 refine WL.eff (EO.alloc ze40 rfl) rfl ?_
 rintro _ _ _ - ⟨rfl, g41, rfl, rfl⟩
 refine WL.eff (EO.storeL (v := (.agg #[(.int .i64 r34.Kind), vq39_1])) (vl := [(.int .i64 r34.Kind), vq39_1]) (arr' := [(.int .i64 r34.Kind), vq39_1]) rfl sz40 rfl rfl (onesOf (Ones.cons rfl (Ones.cons (OwnS.one hq39_1) Ones.nil))) rfl rfl rfl) rfl ?_
 rintro _ _ _ - ⟨rfl, rfl⟩
 refine Pa (GV r35) rfl rfl ?_
 refine Ns ?_
 refine Pu (a68_ a0 v0_10) (PO.loadBA (cs := (l68 a0 v0_10)) 3 ag68 sz68 rfl rfl rfl) rfl ?_
 obtain ⟨r42, hr43, h⟩ := bnd h
 refine WL.eff (EO.call0 co31 (f_ref22_Check_ok a0 _ _ h0_10 r42 hr43) (args1 rfl)) rfl ?_
 rintro _ M44 _ hle45 ⟨_, ⟨rfl, rfl⟩, rfl⟩
 have h0_10 := h0_10.mono hle45
 have hq39_1 := hq39_1.mono hle45
 have hE := hE.mono hle45
 refine WL.a0 ?_
 refine WL.eff (EO.alloc ze77 rfl) rfl ?_
 rintro _ _ _ - ⟨rfl, g47, rfl, rfl⟩
 refine WL.eff (EO.storeL (v := (a77_ r42)) (vl := (l77 r42)) (arr' := (l77 r42)) rfl sz77 rfl rfl (onesOf (Ones.cons rfl (Ones.cons rfl (Ones.cons rfl Ones.nil)))) rfl rfl rfl) rfl ?_
 rintro _ _ _ - ⟨rfl, rfl⟩
 refine Nt ?_
 refine WC.seq ?_
 obtain ⟨x48, hj49, h⟩ := bnd h
 refine WC.joinF (fun (x48 : Bool) ρ' M' H' => M44.le M' ∧ [(g47, .cells (l77 r42).toArray 77 (0, 0))] :: [(g41, .cells #[(.int .i64 r34.Kind), vq39_1] 40 (0, 0))] :: [(g22, .cells (l72 a1).toArray 72 (0, 0))] :: [(g21, .cells (l68 a0 v0_10).toArray 68 (0, 0))] :: cq39_1 :: F = H' ∧ ρ' 3 = (.pointer (some ⟨g22, 0, none⟩)) ∧ ρ' 54 = (.bool x48)) x48 ?_ ?_
 have h349 := h
 have h := hj49
 refine WC.draw [0, 0, 3, 7, 15, 31, 63, 127, 255, 511, 1023, 2047, 4095, 8191, 16383, 8191, 40959, 131071, 262143, 524287, 1048575, 2097151, 4194303, 8388607, 16777215, 33554431, 67108863, 134217727, 268435455, 536870911, 1073741823, 2147483647, 4294967295] (.pure 0 (.pure 1 (.alt 2 (.pure 3 (.pure 4 (.pure 5 (.pure 6 (.pure 7 (.pure 8 (.pure 9 (.pure 10 (.pure 11 (.pure 12 (.pure 13 (.pure 14 (.pure 15 (.alt 16 (.alt 17 (.pure 18 (.pure 19 (.pure 20 (.pure 21 (.pure 22 (.pure 23 (.pure 24 (.pure 25 (.pure 26 (.pure 27 (.pure 28 (.pure 29 (.pure 30 (.pure 31 (.pure 32 .done))))))))))))))) .none) .none)))))))))))))) .none))) mixed (by kernel_rfl) ?_
 refine Tp (GV r35) rfl (PO.move rfl) rfl ?_
 refine Tp (a77_ r42) rfl (PO.loadBA (cs := (l77 r42)) 0 ag77 sz77 rfl rfl rfl) rfl ?_
 obtain ⟨r50, hr51, h⟩ := bnd h
 refine WT.alt rfl (EO.call0 co29 (f_law22_wrong_ok r35 r42 _ hE r50 hr51) (args2 rfl rfl)) rfl ?_ ?_
 rintro _ M52 _ hle53 ⟨_, ⟨rfl, rfl⟩, rfl⟩
 have h0_10 := h0_10.mono hle53
 have hq39_1 := hq39_1.mono hle53
 have hE := hE.mono hle53
 refine ⟨(StabL.anc rfl (StabL.anc rfl trivial)), ?_⟩
 refine WT.a0 ?_
 refine Tp (.bool (!r50)) rfl (PO.not rfl) rfl ?_
 refine Tp (.bool (!r50)) rfl (PO.move rfl) rfl ?_
 rcases Bool.eq_false_or_eq_true (!r50) with hb55 | hb55
 have h := ite_t hb55 h
 refine WT.pureOff 26 rfl rfl rfl hb55 rfl ?_
 refine WT.pureOff 26 rfl rfl rfl hb55 rfl ?_
 refine WT.pureOff 26 rfl rfl rfl hb55 rfl ?_
 refine WT.pureOff 26 rfl rfl rfl hb55 rfl ?_
 refine WT.pureOffU 30 rfl rfl rfl  rfl ?_
 refine WT.pureOffU 30 rfl rfl rfl  rfl ?_
 refine WT.pureOffU 30 rfl rfl rfl  rfl ?_
 refine WT.pureOffU 30 rfl rfl rfl  rfl ?_
 refine WT.pureOffU 34 rfl rfl rfl  rfl ?_
 refine WT.pureOffU 34 rfl rfl rfl  rfl ?_
 refine WT.pureOffU 34 rfl rfl rfl  rfl ?_
 refine WT.altOffU 34 rfl rfl rfl  rfl ⟨(StabL.anc rfl (StabL.st (StabA.offU 34 rfl rfl rfl rfl) (StabL.st (StabA.offU 34 rfl rfl rfl rfl) (StabL.anc rfl (StabL.anc rfl (StabL.anc rfl (StabL.anc rfl (StabL.anc rfl (StabL.anc rfl (StabL.anc rfl (StabL.anc rfl (StabL.anc rfl (StabL.anc rfl (StabL.anc rfl (StabL.anc rfl trivial))))))))))))))), ?_⟩ ?_
 refine WT.altOffU 34 rfl rfl rfl  rfl ⟨(StabL.anc rfl (StabL.anc rfl (StabL.anc rfl (StabL.anc rfl (StabL.anc rfl (StabL.anc rfl (StabL.anc rfl (StabL.anc rfl (StabL.anc rfl (StabL.anc rfl (StabL.anc rfl (StabL.anc rfl (StabL.anc rfl (StabL.anc rfl (StabL.anc rfl trivial))))))))))))))), ?_⟩ ?_
 refine WT.pureOffU 34 rfl rfl rfl  rfl ?_
 refine WT.pureOffU 30 rfl rfl rfl  rfl ?_
 refine WT.pureOff 26 rfl rfl rfl hb55 rfl ?_
 refine Tp (.bool true) rfl (PO.pickT rfl hb55 rfl) rfl ?_
 refine Tp (.bool true) rfl (PO.move rfl) rfl ?_
 refine WT.pureOff 44 rfl rfl rfl rfl rfl ?_
 refine WT.pureOff 44 rfl rfl rfl rfl rfl ?_
 refine WT.pureOff 44 rfl rfl rfl rfl rfl ?_
 refine WT.pureOff 44 rfl rfl rfl rfl rfl ?_
 refine WT.pureOffU 48 rfl rfl rfl  rfl ?_
 refine WT.pureOffU 48 rfl rfl rfl  rfl ?_
 refine WT.pureOffU 48 rfl rfl rfl  rfl ?_
 refine WT.pureOffU 48 rfl rfl rfl  rfl ?_
 refine WT.pureOff 44 rfl rfl rfl rfl rfl ?_
 refine Tp (.bool true) rfl (PO.pickT rfl rfl rfl) rfl ?_
 refine WT.fin ?_
 refine WQ.f2 ?_
 refine WQ.f4 ?_
 refine WQ.f4 ?_
 refine WQ.f4 ?_
 refine WQ.f4 ?_
 obtain rfl := Option.some.inj h
 refine WQ.thenJ ?_
 exact ⟨hle53, rfl, rfl, rfl⟩
 exact WT.no
 exact WT.no
 have h := ite_f hb55 h
 refine Tn (.pointer (some ⟨g47, 2, none⟩)) 26 rfl rfl rfl hb55 (PO.fieldAddr fo77_2 rfl rfl) rfl ?_
 refine Tn (.int .i64 r42.Code) 26 rfl rfl rfl hb55 (PO.loadB 0 pl47 rfl rfl rfl) rfl ?_
 refine Tn (.bool (decide (r42.Code = (0 : Int)))) 26 rfl rfl rfl hb55 (PO.eql rfl rfl) rfl ?_
 refine Tn (.bool (decide (r42.Code = (0 : Int)))) 26 rfl rfl rfl hb55 (PO.move rfl) rfl ?_
 rcases Bool.eq_false_or_eq_true (decide (r42.Code = (0 : Int))) with hb56 | hb56
 have h := ite_t hb56 h
 refine Tn (.pointer (some ⟨g41, 0, none⟩)) 30 rfl rfl rfl hb56 (PO.fieldAddr fo40_0 rfl rfl) rfl ?_
 refine Tn (.int .i64 r34.Kind) 30 rfl rfl rfl hb56 (PO.loadB 1 pl3 rfl rfl rfl) rfl ?_
 refine Tn (.bool (decide (r34.Kind ≠ (16 : Int)))) 30 rfl rfl rfl hb56 (PO.neq rfl rfl) rfl ?_
 refine Tn (.bool (decide (r34.Kind ≠ (16 : Int)))) 30 rfl rfl rfl hb56 (PO.move rfl) rfl ?_
 rcases Bool.eq_false_or_eq_true (decide (r34.Kind ≠ (16 : Int))) with hb57 | hb57
 have h := ite_t hb57 h
 refine WT.pureOff 34 rfl rfl rfl hb57 rfl ?_
 refine WT.pureOff 34 rfl rfl rfl hb57 rfl ?_
 refine WT.pureOff 34 rfl rfl rfl hb57 rfl ?_
 refine WT.altOff 34 rfl rfl rfl hb57 rfl ⟨(StabL.anc rfl (StabL.st (StabA.off 34 rfl rfl rfl hb57 rfl) (StabL.st (StabA.off 34 rfl rfl rfl hb57 rfl) (StabL.anc rfl (StabL.anc rfl (StabL.anc rfl (StabL.anc rfl (StabL.anc rfl (StabL.anc rfl (StabL.anc rfl (StabL.anc rfl (StabL.anc rfl (StabL.anc rfl (StabL.anc rfl (StabL.anc rfl trivial))))))))))))))), ?_⟩ ?_
 refine WT.altOff 34 rfl rfl rfl hb57 rfl ⟨(StabL.anc rfl (StabL.anc rfl (StabL.anc rfl (StabL.anc rfl (StabL.anc rfl (StabL.anc rfl (StabL.anc rfl (StabL.anc rfl (StabL.anc rfl (StabL.anc rfl (StabL.anc rfl (StabL.anc rfl (StabL.anc rfl (StabL.anc rfl (StabL.anc rfl trivial))))))))))))))), ?_⟩ ?_
 refine WT.pureOff 34 rfl rfl rfl hb57 rfl ?_
 refine Tn (.bool true) 30 rfl rfl rfl hb56 (PO.pickT rfl hb57 rfl) rfl ?_
 refine Tn (.bool true) 26 rfl rfl rfl hb55 (PO.pickT rfl hb56 rfl) rfl ?_
 refine Tp (.bool true) rfl (PO.pickF rfl hb55 rfl) rfl ?_
 refine Tp (.bool true) rfl (PO.move rfl) rfl ?_
 refine WT.pureOff 44 rfl rfl rfl rfl rfl ?_
 refine WT.pureOff 44 rfl rfl rfl rfl rfl ?_
 refine WT.pureOff 44 rfl rfl rfl rfl rfl ?_
 refine WT.pureOff 44 rfl rfl rfl rfl rfl ?_
 refine WT.pureOffU 48 rfl rfl rfl  rfl ?_
 refine WT.pureOffU 48 rfl rfl rfl  rfl ?_
 refine WT.pureOffU 48 rfl rfl rfl  rfl ?_
 refine WT.pureOffU 48 rfl rfl rfl  rfl ?_
 refine WT.pureOff 44 rfl rfl rfl rfl rfl ?_
 refine Tp (.bool true) rfl (PO.pickT rfl rfl rfl) rfl ?_
 refine WT.fin ?_
 refine WQ.f2 ?_
 refine WQ.f4 ?_
 refine WQ.f4 ?_
 refine WQ.f4 ?_
 refine WQ.f4 ?_
 obtain rfl := Option.some.inj h
 refine WQ.thenJ ?_
 exact ⟨hle53, rfl, rfl, rfl⟩
 exact WT.no
 exact WT.no
 have h := ite_f hb57 h
 refine Tn (.pointer (some ⟨g41, 1, none⟩)) 34 rfl rfl rfl hb57 (PO.fieldAddr fo40_1 rfl rfl) rfl ?_
 refine Tn vq39_1 34 rfl rfl rfl hb57 (PO.loadB 1 pl26 rfl rfl rfl) rfl ?_
 refine Tn (a68_ a0 v0_10) 34 rfl rfl rfl hb57 (PO.loadBA (cs := (l68 a0 v0_10)) 4 ag68 sz68 rfl rfl rfl) rfl ?_
 obtain ⟨r58, hr59, h⟩ := bnd h
 refine WT.altOn 34 rfl rfl rfl hb57 (EO.call0 co37 (f_ref22_Bytes_ok a0 _ _ h0_10 r58 hr59) (args1 rfl)) rfl ?_ ?_
 rintro _ M60 _ hle61 ⟨_, ⟨vq62, cq62, rfl, rfl, hq62⟩, rfl⟩
 have hq39_1 := hq39_1.mono hle61
 have h0_10 := h0_10.mono hle61
 have hE := hE.mono hle61
 refine ⟨(StabL.anc rfl (StabL.st (StabA.on 34 rfl rfl rfl hb57 (PO.loadB 2 pl26 rfl rfl rfl) rfl) (StabL.st (StabA.on 34 rfl rfl rfl hb57 (PO.fieldAddr fo40_1 rfl rfl) rfl) (StabL.anc rfl (StabL.anc rfl (StabL.anc rfl (StabL.anc rfl (StabL.anc rfl (StabL.anc rfl (StabL.anc rfl (StabL.anc rfl (StabL.anc rfl (StabL.anc rfl (StabL.anc rfl (StabL.anc rfl trivial))))))))))))))), ?_⟩
 refine WT.a1 ?_
 obtain ⟨r63, hr64, h⟩ := bnd h
 refine WT.f3 ?_
 refine WT.altOn 34 rfl rfl rfl hb57 (EO.call2 co19 (Tri.lend fun w0_ H0_ hs0_ => (Tri.lend fun w1_ H1_ hs1_ => (f_ref02_Same_ok r34.Body r58 _ _ _ ((hq39_1.rs hs0_).mono (IM.le_add _ _)) ((hq62.mono (IM.le_add _ _)).rs hs1_) r63 hr64))) (args2 rfl rfl)) rfl ?_ ?_
 rintro _ _ _ hle66 ⟨_, ⟨Ml71, Hl72, hll73, rfl, rfl, ⟨Ml68, Hl69, hll70, rfl, rfl, ⟨rfl, rfl⟩⟩⟩, rfl⟩
 have hq39_1 := hq39_1.mono hle66
 have h0_10 := h0_10.mono hle66
 have hq62 := hq62.mono hle66
 have hE := hE.mono hle66
 refine ⟨(StabL.anc rfl (StabL.anc rfl (StabL.anc rfl (StabL.anc rfl (StabL.anc rfl (StabL.anc rfl (StabL.anc rfl (StabL.anc rfl (StabL.anc rfl (StabL.anc rfl (StabL.anc rfl (StabL.anc rfl (StabL.anc rfl (StabL.anc rfl (StabL.anc rfl trivial))))))))))))))), ?_⟩
 refine WT.a2 ?_
 refine Tn (.bool (!r63)) 34 rfl rfl rfl hb57 (PO.not rfl) rfl ?_
 refine Tn (.bool (!r63)) 30 rfl rfl rfl hb56 (PO.pickF rfl hb57 rfl) rfl ?_
 refine Tn (.bool (!r63)) 26 rfl rfl rfl hb55 (PO.pickT rfl hb56 rfl) rfl ?_
 refine Tp (.bool (!r63)) rfl (PO.pickF rfl hb55 rfl) rfl ?_
 refine Tp (.bool (!r63)) rfl (PO.move rfl) rfl ?_
 rcases Bool.eq_false_or_eq_true (!r63) with hb74 | hb74
 have h := ite_t hb74 h
 refine WT.pureOff 44 rfl rfl rfl hb74 rfl ?_
 refine WT.pureOff 44 rfl rfl rfl hb74 rfl ?_
 refine WT.pureOff 44 rfl rfl rfl hb74 rfl ?_
 refine WT.pureOff 44 rfl rfl rfl hb74 rfl ?_
 refine WT.pureOffU 48 rfl rfl rfl  rfl ?_
 refine WT.pureOffU 48 rfl rfl rfl  rfl ?_
 refine WT.pureOffU 48 rfl rfl rfl  rfl ?_
 refine WT.pureOffU 48 rfl rfl rfl  rfl ?_
 refine WT.pureOff 44 rfl rfl rfl hb74 rfl ?_
 refine Tp (.bool true) rfl (PO.pickT rfl hb74 rfl) rfl ?_
 refine WT.fin ?_
 refine WQ.f1 ?_
 refine WQ.drop ?_
 refine WQ.f4 ?_
 refine WQ.f4 ?_
 refine WQ.f4 ?_
 refine WQ.f4 ?_
 obtain rfl := Option.some.inj h
 refine WQ.thenJ ?_
 exact ⟨((hle53.trans hle61).trans hle66), rfl, rfl, rfl⟩
 have h := ite_f hb74 h
 refine Tn (.pointer (some ⟨g47, 2, none⟩)) 44 rfl rfl rfl hb74 (PO.fieldAddr fo77_2 rfl rfl) rfl ?_
 refine Tn (.int .i64 r42.Code) 44 rfl rfl rfl hb74 (PO.loadB 2 pl47 rfl rfl rfl) rfl ?_
 refine Tn (.bool (decide (r42.Code ≠ (0 : Int)))) 44 rfl rfl rfl hb74 (PO.neq rfl rfl) rfl ?_
 refine Tn (.bool (decide (r42.Code ≠ (0 : Int)))) 44 rfl rfl rfl hb74 (PO.move rfl) rfl ?_
 rcases Bool.eq_false_or_eq_true (decide (r42.Code ≠ (0 : Int))) with hb75 | hb75
 have h := ite_t hb75 h
 refine Tn (.pointer (some ⟨g41, 1, none⟩)) 48 rfl rfl rfl hb75 (PO.fieldAddr fo40_1 rfl rfl) rfl ?_
 refine Tn vq39_1 48 rfl rfl rfl hb75 (PO.loadB 3 pl26 rfl rfl rfl) rfl ?_
 refine Tn (.int .i64 (r34.Body.length : Int)) 48 rfl rfl rfl hb75 (PO.lenS Tryd.underlying26 rfl hq39_1.len) rfl ?_
 refine Tn (.bool (decide ((0 : Int) < (r34.Body.length : Int)))) 48 rfl rfl rfl hb75 (PO.gtr rfl rfl) rfl ?_
 refine Tn (.bool (decide ((0 : Int) < (r34.Body.length : Int)))) 44 rfl rfl rfl hb74 (PO.pickT rfl hb75 rfl) rfl ?_
 refine Tp (.bool (decide ((0 : Int) < (r34.Body.length : Int)))) rfl (PO.pickF rfl hb74 rfl) rfl ?_
 refine WT.fin ?_
 refine WQ.f1 ?_
 refine WQ.drop ?_
 refine WQ.f4 ?_
 refine WQ.f4 ?_
 refine WQ.f4 ?_
 refine WQ.f4 ?_
 obtain rfl := Option.some.inj h
 refine WQ.thenJ ?_
 exact ⟨((hle53.trans hle61).trans hle66), rfl, rfl, rfl⟩
 have h := ite_f hb75 h
 refine WT.pureOff 48 rfl rfl rfl hb75 rfl ?_
 refine WT.pureOff 48 rfl rfl rfl hb75 rfl ?_
 refine WT.pureOff 48 rfl rfl rfl hb75 rfl ?_
 refine WT.pureOff 48 rfl rfl rfl hb75 rfl ?_
 refine Tn (.bool false) 44 rfl rfl rfl hb74 (PO.pickF rfl hb75 rfl) rfl ?_
 refine Tp (.bool false) rfl (PO.pickF rfl hb74 rfl) rfl ?_
 refine WT.fin ?_
 refine WQ.f1 ?_
 refine WQ.drop ?_
 refine WQ.f4 ?_
 refine WQ.f4 ?_
 refine WQ.f4 ?_
 refine WQ.f4 ?_
 obtain rfl := Option.some.inj h
 refine WQ.thenJ ?_
 exact ⟨((hle53.trans hle61).trans hle66), rfl, rfl, rfl⟩
 exact WT.no
 exact WT.no
 have h := ite_f hb56 h
 refine WT.pureOff 30 rfl rfl rfl hb56 rfl ?_
 refine WT.pureOff 30 rfl rfl rfl hb56 rfl ?_
 refine WT.pureOff 30 rfl rfl rfl hb56 rfl ?_
 refine WT.pureOff 30 rfl rfl rfl hb56 rfl ?_
 refine WT.pureOffU 34 rfl rfl rfl  rfl ?_
 refine WT.pureOffU 34 rfl rfl rfl  rfl ?_
 refine WT.pureOffU 34 rfl rfl rfl  rfl ?_
 refine WT.altOffU 34 rfl rfl rfl  rfl ⟨(StabL.anc rfl (StabL.st (StabA.offU 34 rfl rfl rfl rfl) (StabL.st (StabA.offU 34 rfl rfl rfl rfl) (StabL.anc rfl (StabL.anc rfl (StabL.anc rfl (StabL.anc rfl (StabL.anc rfl (StabL.anc rfl (StabL.anc rfl (StabL.anc rfl (StabL.anc rfl (StabL.anc rfl (StabL.anc rfl (StabL.anc rfl trivial))))))))))))))), ?_⟩ ?_
 refine WT.altOffU 34 rfl rfl rfl  rfl ⟨(StabL.anc rfl (StabL.anc rfl (StabL.anc rfl (StabL.anc rfl (StabL.anc rfl (StabL.anc rfl (StabL.anc rfl (StabL.anc rfl (StabL.anc rfl (StabL.anc rfl (StabL.anc rfl (StabL.anc rfl (StabL.anc rfl (StabL.anc rfl (StabL.anc rfl trivial))))))))))))))), ?_⟩ ?_
 refine WT.pureOffU 34 rfl rfl rfl  rfl ?_
 refine WT.pureOff 30 rfl rfl rfl hb56 rfl ?_
 refine Tn (.bool false) 26 rfl rfl rfl hb55 (PO.pickF rfl hb56 rfl) rfl ?_
 refine Tp (.bool false) rfl (PO.pickF rfl hb55 rfl) rfl ?_
 refine Tp (.bool false) rfl (PO.move rfl) rfl ?_
 refine Tn (.pointer (some ⟨g47, 2, none⟩)) 44 rfl rfl rfl rfl (PO.fieldAddr fo77_2 rfl rfl) rfl ?_
 refine Tn (.int .i64 r42.Code) 44 rfl rfl rfl rfl (PO.loadB 0 pl47 rfl rfl rfl) rfl ?_
 refine Tn (.bool (decide (r42.Code ≠ (0 : Int)))) 44 rfl rfl rfl rfl (PO.neq rfl rfl) rfl ?_
 refine Tn (.bool (decide (r42.Code ≠ (0 : Int)))) 44 rfl rfl rfl rfl (PO.move rfl) rfl ?_
 rcases Bool.eq_false_or_eq_true (decide (r42.Code ≠ (0 : Int))) with hb76 | hb76
 have h := ite_t hb76 h
 refine Tn (.pointer (some ⟨g41, 1, none⟩)) 48 rfl rfl rfl hb76 (PO.fieldAddr fo40_1 rfl rfl) rfl ?_
 refine Tn vq39_1 48 rfl rfl rfl hb76 (PO.loadB 1 pl26 rfl rfl rfl) rfl ?_
 refine Tn (.int .i64 (r34.Body.length : Int)) 48 rfl rfl rfl hb76 (PO.lenS Tryd.underlying26 rfl hq39_1.len) rfl ?_
 refine Tn (.bool (decide ((0 : Int) < (r34.Body.length : Int)))) 48 rfl rfl rfl hb76 (PO.gtr rfl rfl) rfl ?_
 refine Tn (.bool (decide ((0 : Int) < (r34.Body.length : Int)))) 44 rfl rfl rfl rfl (PO.pickT rfl hb76 rfl) rfl ?_
 refine Tp (.bool (decide ((0 : Int) < (r34.Body.length : Int)))) rfl (PO.pickF rfl rfl rfl) rfl ?_
 refine WT.fin ?_
 refine WQ.f2 ?_
 refine WQ.f4 ?_
 refine WQ.f4 ?_
 refine WQ.f4 ?_
 refine WQ.f4 ?_
 obtain rfl := Option.some.inj h
 refine WQ.thenJ ?_
 exact ⟨hle53, rfl, rfl, rfl⟩
 have h := ite_f hb76 h
 refine WT.pureOff 48 rfl rfl rfl hb76 rfl ?_
 refine WT.pureOff 48 rfl rfl rfl hb76 rfl ?_
 refine WT.pureOff 48 rfl rfl rfl hb76 rfl ?_
 refine WT.pureOff 48 rfl rfl rfl hb76 rfl ?_
 refine Tn (.bool false) 44 rfl rfl rfl rfl (PO.pickF rfl hb76 rfl) rfl ?_
 refine Tp (.bool false) rfl (PO.pickF rfl rfl rfl) rfl ?_
 refine WT.fin ?_
 refine WQ.f2 ?_
 refine WQ.f4 ?_
 refine WQ.f4 ?_
 refine WQ.f4 ?_
 refine WQ.f4 ?_
 obtain rfl := Option.some.inj h
 refine WQ.thenJ ?_
 exact ⟨hle53, rfl, rfl, rfl⟩
 exact WT.no
 exact WT.no
 exact WT.no
 rintro ρ49 M49 H49 ⟨hle49, rfl, hs49_3, hs49_54⟩
 have hq39_1 := hq39_1.mono hle49
 have h0_10 := h0_10.mono hle49
 have hE := hE.mono hle49
 refine WC.cond (b := x48) hs49_54 (fun hb77 => ?_) (fun hb77 => ?_)
 have h := ite_t hb77 h
 refine Sr ?_
 refine Pa (.bool false) rfl rfl ?_
 refine Nt ?_
 refine WC.ret ?_
 refine WQ.thenR ?_
 refine WQ.drop ?_
 refine WQ.drop ?_
 refine WQ.drop ?_
 refine WQ.drop ?_
 refine WQ.drop ?_
 exact WQ.returnsF h [] rfl (results1 rfl rfl) (((hle26.trans hle38).trans hle45).trans hle49) ⟨rfl, rfl⟩
 have h := ite_f hb77 h
 refine WC.skip ?_
 refine WQ.thenC ?_
 refine Sr ?_
 refine Pu (a72_ a1) (PO.loadBA (cs := (l72 a1)) 2 ag72 sz72 hs49_3 rfl rfl) rfl ?_
 obtain ⟨⟨r78, r79⟩, hr80, h⟩ := bnd h
 refine WL.eff (EO.call0 co38 (f_ask_PutReply_ok a1 _ (r78, r79) hr80) (args1 rfl)) rfl ?_
 rintro _ M81 _ hle82 ⟨_, ⟨vq83_1, cq83_1, rfl, rfl, hq83_1⟩, rfl⟩
 have hq39_1 := hq39_1.mono hle82
 have h0_10 := h0_10.mono hle82
 have hE := hE.mono hle82
 refine WL.a1 ?_
 refine Pm (.tuple #[(.agg #[(.int .i64 r78.Kind), vq83_1]), (GV r79)]) rfl rfl ?_
 refine Pu (.agg #[(.int .i64 r78.Kind), vq83_1]) (PO.extract rfl rfl) rfl ?_
 refine Pu (GV r79) (PO.extract rfl rfl) rfl ?_
 refine WL.eff (EO.alloc ze40 rfl) rfl ?_
 rintro _ _ _ - ⟨rfl, g85, rfl, rfl⟩
 refine WL.eff (EO.storeL (v := (.agg #[(.int .i64 r78.Kind), vq83_1])) (vl := [(.int .i64 r78.Kind), vq83_1]) (arr' := [(.int .i64 r78.Kind), vq83_1]) rfl sz40 rfl rfl (onesOf (Ones.cons rfl (Ones.cons (OwnS.one hq83_1) Ones.nil))) rfl rfl rfl) rfl ?_
 rintro _ _ _ - ⟨rfl, rfl⟩
 refine Pa (GV r79) rfl rfl ?_
 refine Ns ?_
 refine Pu (a72_ a1) (PO.loadBA (cs := (l72 a1)) 4 ag72 sz72 hs49_3 rfl rfl) rfl ?_
 obtain ⟨r86, hr87, h⟩ := bnd h
 refine WL.eff (EO.call0 co33 (f_ref22_CheckReply_ok a1 _ r86 hr87) (args1 rfl)) rfl ?_
 rintro _ M88 _ hle89 ⟨_, ⟨rfl, rfl⟩, rfl⟩
 have hq39_1 := hq39_1.mono hle89
 have h0_10 := h0_10.mono hle89
 have hq83_1 := hq83_1.mono hle89
 have hE := hE.mono hle89
 refine WL.a0 ?_
 refine WL.eff (EO.alloc ze77 rfl) rfl ?_
 rintro _ _ _ - ⟨rfl, g91, rfl, rfl⟩
 refine WL.eff (EO.storeL (v := (a77_ r86)) (vl := (l77 r86)) (arr' := (l77 r86)) rfl sz77 rfl rfl (onesOf (Ones.cons rfl (Ones.cons rfl (Ones.cons rfl Ones.nil)))) rfl rfl rfl) rfl ?_
 rintro _ _ _ - ⟨rfl, rfl⟩
 refine Nt ?_
 refine WC.seq ?_
 obtain ⟨x92, hj93, h⟩ := bnd h
 refine WC.joinF (fun (x92 : Bool) ρ' M' H' => M88.le M' ∧ [(g91, .cells (l77 r86).toArray 77 (0, 0))] :: [(g85, .cells #[(.int .i64 r78.Kind), vq83_1] 40 (0, 0))] :: [(g47, .cells (l77 r42).toArray 77 (0, 0))] :: [(g41, .cells #[(.int .i64 r34.Kind), vq39_1] 40 (0, 0))] :: [(g22, .cells (l72 a1).toArray 72 (0, 0))] :: [(g21, .cells (l68 a0 v0_10).toArray 68 (0, 0))] :: cq83_1 :: cq39_1 :: F = H' ∧ ρ' 94 = (.bool x92)) x92 ?_ ?_
 have h393 := h
 have h := hj93
 refine WC.draw [0, 0, 3, 7, 15, 31, 63, 127, 255, 511, 1023, 2047, 4095, 8191, 16383, 8191, 40959, 131071, 262143, 524287, 1048575, 2097151, 4194303, 8388607, 16777215, 33554431, 67108863, 134217727, 268435455, 536870911, 1073741823, 2147483647, 4294967295] (.pure 0 (.pure 1 (.alt 2 (.pure 3 (.pure 4 (.pure 5 (.pure 6 (.pure 7 (.pure 8 (.pure 9 (.pure 10 (.pure 11 (.pure 12 (.pure 13 (.pure 14 (.pure 15 (.alt 16 (.alt 17 (.pure 18 (.pure 19 (.pure 20 (.pure 21 (.pure 22 (.pure 23 (.pure 24 (.pure 25 (.pure 26 (.pure 27 (.pure 28 (.pure 29 (.pure 30 (.pure 31 (.pure 32 .done))))))))))))))) .none) .none)))))))))))))) .none))) mixed (by kernel_rfl) ?_
 refine Tp (GV r79) rfl (PO.move rfl) rfl ?_
 refine Tp (a77_ r86) rfl (PO.loadBA (cs := (l77 r86)) 0 ag77 sz77 rfl rfl rfl) rfl ?_
 obtain ⟨r94, hr95, h⟩ := bnd h
 refine WT.alt rfl (EO.call0 co29 (f_law22_wrong_ok r79 r86 _ hE r94 hr95) (args2 rfl rfl)) rfl ?_ ?_
 rintro _ M96 _ hle97 ⟨_, ⟨rfl, rfl⟩, rfl⟩
 have hq39_1 := hq39_1.mono hle97
 have h0_10 := h0_10.mono hle97
 have hq83_1 := hq83_1.mono hle97
 have hE := hE.mono hle97
 refine ⟨(StabL.anc rfl (StabL.anc rfl trivial)), ?_⟩
 refine WT.a0 ?_
 refine Tp (.bool (!r94)) rfl (PO.not rfl) rfl ?_
 refine Tp (.bool (!r94)) rfl (PO.move rfl) rfl ?_
 rcases Bool.eq_false_or_eq_true (!r94) with hb99 | hb99
 have h := ite_t hb99 h
 refine WT.pureOff 66 rfl rfl rfl hb99 rfl ?_
 refine WT.pureOff 66 rfl rfl rfl hb99 rfl ?_
 refine WT.pureOff 66 rfl rfl rfl hb99 rfl ?_
 refine WT.pureOff 66 rfl rfl rfl hb99 rfl ?_
 refine WT.pureOffU 70 rfl rfl rfl  rfl ?_
 refine WT.pureOffU 70 rfl rfl rfl  rfl ?_
 refine WT.pureOffU 70 rfl rfl rfl  rfl ?_
 refine WT.pureOffU 70 rfl rfl rfl  rfl ?_
 refine WT.pureOffU 74 rfl rfl rfl  rfl ?_
 refine WT.pureOffU 74 rfl rfl rfl  rfl ?_
 refine WT.pureOffU 74 rfl rfl rfl  rfl ?_
 refine WT.altOffU 74 rfl rfl rfl  rfl ⟨(StabL.anc rfl (StabL.st (StabA.offU 74 rfl rfl rfl rfl) (StabL.st (StabA.offU 74 rfl rfl rfl rfl) (StabL.anc rfl (StabL.anc rfl (StabL.anc rfl (StabL.anc rfl (StabL.anc rfl (StabL.anc rfl (StabL.anc rfl (StabL.anc rfl (StabL.anc rfl (StabL.anc rfl (StabL.anc rfl (StabL.anc rfl trivial))))))))))))))), ?_⟩ ?_
 refine WT.altOffU 74 rfl rfl rfl  rfl ⟨(StabL.anc rfl (StabL.anc rfl (StabL.anc rfl (StabL.anc rfl (StabL.anc rfl (StabL.anc rfl (StabL.anc rfl (StabL.anc rfl (StabL.anc rfl (StabL.anc rfl (StabL.anc rfl (StabL.anc rfl (StabL.anc rfl (StabL.anc rfl (StabL.anc rfl trivial))))))))))))))), ?_⟩ ?_
 refine WT.pureOffU 74 rfl rfl rfl  rfl ?_
 refine WT.pureOffU 70 rfl rfl rfl  rfl ?_
 refine WT.pureOff 66 rfl rfl rfl hb99 rfl ?_
 refine Tp (.bool true) rfl (PO.pickT rfl hb99 rfl) rfl ?_
 refine Tp (.bool true) rfl (PO.move rfl) rfl ?_
 refine WT.pureOff 84 rfl rfl rfl rfl rfl ?_
 refine WT.pureOff 84 rfl rfl rfl rfl rfl ?_
 refine WT.pureOff 84 rfl rfl rfl rfl rfl ?_
 refine WT.pureOff 84 rfl rfl rfl rfl rfl ?_
 refine WT.pureOffU 88 rfl rfl rfl  rfl ?_
 refine WT.pureOffU 88 rfl rfl rfl  rfl ?_
 refine WT.pureOffU 88 rfl rfl rfl  rfl ?_
 refine WT.pureOffU 88 rfl rfl rfl  rfl ?_
 refine WT.pureOff 84 rfl rfl rfl rfl rfl ?_
 refine Tp (.bool true) rfl (PO.pickT rfl rfl rfl) rfl ?_
 refine WT.fin ?_
 refine WQ.f7 ?_
 refine WQ.f3 ?_
 refine WQ.f7 ?_
 refine WQ.f7 ?_
 refine WQ.f7 ?_
 refine WQ.f7 ?_
 refine WQ.f7 ?_
 refine WQ.f7 ?_
 obtain rfl := Option.some.inj h
 refine WQ.thenJ ?_
 exact ⟨hle97, rfl, rfl⟩
 exact WT.no
 exact WT.no
 have h := ite_f hb99 h
 refine Tn (.pointer (some ⟨g91, 2, none⟩)) 66 rfl rfl rfl hb99 (PO.fieldAddr fo77_2 rfl rfl) rfl ?_
 refine Tn (.int .i64 r86.Code) 66 rfl rfl rfl hb99 (PO.loadB 0 pl47 rfl rfl rfl) rfl ?_
 refine Tn (.bool (decide (r86.Code = (0 : Int)))) 66 rfl rfl rfl hb99 (PO.eql rfl rfl) rfl ?_
 refine Tn (.bool (decide (r86.Code = (0 : Int)))) 66 rfl rfl rfl hb99 (PO.move rfl) rfl ?_
 rcases Bool.eq_false_or_eq_true (decide (r86.Code = (0 : Int))) with hb100 | hb100
 have h := ite_t hb100 h
 refine Tn (.pointer (some ⟨g85, 0, none⟩)) 70 rfl rfl rfl hb100 (PO.fieldAddr fo40_0 rfl rfl) rfl ?_
 refine Tn (.int .i64 r78.Kind) 70 rfl rfl rfl hb100 (PO.loadB 1 pl3 rfl rfl rfl) rfl ?_
 refine Tn (.bool (decide (r78.Kind ≠ (17 : Int)))) 70 rfl rfl rfl hb100 (PO.neq rfl rfl) rfl ?_
 refine Tn (.bool (decide (r78.Kind ≠ (17 : Int)))) 70 rfl rfl rfl hb100 (PO.move rfl) rfl ?_
 rcases Bool.eq_false_or_eq_true (decide (r78.Kind ≠ (17 : Int))) with hb101 | hb101
 have h := ite_t hb101 h
 refine WT.pureOff 74 rfl rfl rfl hb101 rfl ?_
 refine WT.pureOff 74 rfl rfl rfl hb101 rfl ?_
 refine WT.pureOff 74 rfl rfl rfl hb101 rfl ?_
 refine WT.altOff 74 rfl rfl rfl hb101 rfl ⟨(StabL.anc rfl (StabL.st (StabA.off 74 rfl rfl rfl hb101 rfl) (StabL.st (StabA.off 74 rfl rfl rfl hb101 rfl) (StabL.anc rfl (StabL.anc rfl (StabL.anc rfl (StabL.anc rfl (StabL.anc rfl (StabL.anc rfl (StabL.anc rfl (StabL.anc rfl (StabL.anc rfl (StabL.anc rfl (StabL.anc rfl (StabL.anc rfl trivial))))))))))))))), ?_⟩ ?_
 refine WT.altOff 74 rfl rfl rfl hb101 rfl ⟨(StabL.anc rfl (StabL.anc rfl (StabL.anc rfl (StabL.anc rfl (StabL.anc rfl (StabL.anc rfl (StabL.anc rfl (StabL.anc rfl (StabL.anc rfl (StabL.anc rfl (StabL.anc rfl (StabL.anc rfl (StabL.anc rfl (StabL.anc rfl (StabL.anc rfl trivial))))))))))))))), ?_⟩ ?_
 refine WT.pureOff 74 rfl rfl rfl hb101 rfl ?_
 refine Tn (.bool true) 70 rfl rfl rfl hb100 (PO.pickT rfl hb101 rfl) rfl ?_
 refine Tn (.bool true) 66 rfl rfl rfl hb99 (PO.pickT rfl hb100 rfl) rfl ?_
 refine Tp (.bool true) rfl (PO.pickF rfl hb99 rfl) rfl ?_
 refine Tp (.bool true) rfl (PO.move rfl) rfl ?_
 refine WT.pureOff 84 rfl rfl rfl rfl rfl ?_
 refine WT.pureOff 84 rfl rfl rfl rfl rfl ?_
 refine WT.pureOff 84 rfl rfl rfl rfl rfl ?_
 refine WT.pureOff 84 rfl rfl rfl rfl rfl ?_
 refine WT.pureOffU 88 rfl rfl rfl  rfl ?_
 refine WT.pureOffU 88 rfl rfl rfl  rfl ?_
 refine WT.pureOffU 88 rfl rfl rfl  rfl ?_
 refine WT.pureOffU 88 rfl rfl rfl  rfl ?_
 refine WT.pureOff 84 rfl rfl rfl rfl rfl ?_
 refine Tp (.bool true) rfl (PO.pickT rfl rfl rfl) rfl ?_
 refine WT.fin ?_
 refine WQ.f7 ?_
 refine WQ.f3 ?_
 refine WQ.f7 ?_
 refine WQ.f7 ?_
 refine WQ.f7 ?_
 refine WQ.f7 ?_
 refine WQ.f7 ?_
 refine WQ.f7 ?_
 obtain rfl := Option.some.inj h
 refine WQ.thenJ ?_
 exact ⟨hle97, rfl, rfl⟩
 exact WT.no
 exact WT.no
 have h := ite_f hb101 h
 refine Tn (.pointer (some ⟨g85, 1, none⟩)) 74 rfl rfl rfl hb101 (PO.fieldAddr fo40_1 rfl rfl) rfl ?_
 refine Tn vq83_1 74 rfl rfl rfl hb101 (PO.loadB 1 pl26 rfl rfl rfl) rfl ?_
 refine Tn (a72_ a1) 74 rfl rfl rfl hb101 (PO.loadBA (cs := (l72 a1)) 5 ag72 sz72 hs49_3 rfl rfl) rfl ?_
 obtain ⟨r102, hr103, h⟩ := bnd h
 refine WT.altOn 74 rfl rfl rfl hb101 (EO.call0 co39 (f_ref22_ReplyBytes_ok a1 _ r102 hr103) (args1 rfl)) rfl ?_ ?_
 rintro _ M104 _ hle105 ⟨_, ⟨vq106, cq106, rfl, rfl, hq106⟩, rfl⟩
 have hq83_1 := hq83_1.mono hle105
 have hq39_1 := hq39_1.mono hle105
 have h0_10 := h0_10.mono hle105
 have hE := hE.mono hle105
 refine ⟨(StabL.anc rfl (StabL.st (StabA.on 74 rfl rfl rfl hb101 (PO.loadB 2 pl26 rfl rfl rfl) rfl) (StabL.st (StabA.on 74 rfl rfl rfl hb101 (PO.fieldAddr fo40_1 rfl rfl) rfl) (StabL.anc rfl (StabL.anc rfl (StabL.anc rfl (StabL.anc rfl (StabL.anc rfl (StabL.anc rfl (StabL.anc rfl (StabL.anc rfl (StabL.anc rfl (StabL.anc rfl (StabL.anc rfl (StabL.anc rfl trivial))))))))))))))), ?_⟩
 refine WT.a1 ?_
 obtain ⟨r107, hr108, h⟩ := bnd h
 refine WT.f3 ?_
 refine WT.altOn 74 rfl rfl rfl hb101 (EO.call2 co19 (Tri.lend fun w0_ H0_ hs0_ => (Tri.lend fun w1_ H1_ hs1_ => (f_ref02_Same_ok r78.Body r102 _ _ _ ((hq83_1.rs hs0_).mono (IM.le_add _ _)) ((hq106.mono (IM.le_add _ _)).rs hs1_) r107 hr108))) (args2 rfl rfl)) rfl ?_ ?_
 rintro _ _ _ hle110 ⟨_, ⟨Ml115, Hl116, hll117, rfl, rfl, ⟨Ml112, Hl113, hll114, rfl, rfl, ⟨rfl, rfl⟩⟩⟩, rfl⟩
 have hq83_1 := hq83_1.mono hle110
 have hq106 := hq106.mono hle110
 have hq39_1 := hq39_1.mono hle110
 have h0_10 := h0_10.mono hle110
 have hE := hE.mono hle110
 refine ⟨(StabL.anc rfl (StabL.anc rfl (StabL.anc rfl (StabL.anc rfl (StabL.anc rfl (StabL.anc rfl (StabL.anc rfl (StabL.anc rfl (StabL.anc rfl (StabL.anc rfl (StabL.anc rfl (StabL.anc rfl (StabL.anc rfl (StabL.anc rfl (StabL.anc rfl trivial))))))))))))))), ?_⟩
 refine WT.a2 ?_
 refine Tn (.bool (!r107)) 74 rfl rfl rfl hb101 (PO.not rfl) rfl ?_
 refine Tn (.bool (!r107)) 70 rfl rfl rfl hb100 (PO.pickF rfl hb101 rfl) rfl ?_
 refine Tn (.bool (!r107)) 66 rfl rfl rfl hb99 (PO.pickT rfl hb100 rfl) rfl ?_
 refine Tp (.bool (!r107)) rfl (PO.pickF rfl hb99 rfl) rfl ?_
 refine Tp (.bool (!r107)) rfl (PO.move rfl) rfl ?_
 rcases Bool.eq_false_or_eq_true (!r107) with hb118 | hb118
 have h := ite_t hb118 h
 refine WT.pureOff 84 rfl rfl rfl hb118 rfl ?_
 refine WT.pureOff 84 rfl rfl rfl hb118 rfl ?_
 refine WT.pureOff 84 rfl rfl rfl hb118 rfl ?_
 refine WT.pureOff 84 rfl rfl rfl hb118 rfl ?_
 refine WT.pureOffU 88 rfl rfl rfl  rfl ?_
 refine WT.pureOffU 88 rfl rfl rfl  rfl ?_
 refine WT.pureOffU 88 rfl rfl rfl  rfl ?_
 refine WT.pureOffU 88 rfl rfl rfl  rfl ?_
 refine WT.pureOff 84 rfl rfl rfl hb118 rfl ?_
 refine Tp (.bool true) rfl (PO.pickT rfl hb118 rfl) rfl ?_
 refine WT.fin ?_
 refine WQ.f1 ?_
 refine WQ.drop ?_
 refine WQ.f7 ?_
 refine WQ.f1 ?_
 refine WQ.f7 ?_
 refine WQ.f7 ?_
 refine WQ.f7 ?_
 refine WQ.f7 ?_
 refine WQ.f7 ?_
 refine WQ.f7 ?_
 obtain rfl := Option.some.inj h
 refine WQ.thenJ ?_
 exact ⟨((hle97.trans hle105).trans hle110), rfl, rfl⟩
 have h := ite_f hb118 h
 refine Tn (.pointer (some ⟨g91, 2, none⟩)) 84 rfl rfl rfl hb118 (PO.fieldAddr fo77_2 rfl rfl) rfl ?_
 refine Tn (.int .i64 r86.Code) 84 rfl rfl rfl hb118 (PO.loadB 2 pl47 rfl rfl rfl) rfl ?_
 refine Tn (.bool (decide (r86.Code ≠ (0 : Int)))) 84 rfl rfl rfl hb118 (PO.neq rfl rfl) rfl ?_
 refine Tn (.bool (decide (r86.Code ≠ (0 : Int)))) 84 rfl rfl rfl hb118 (PO.move rfl) rfl ?_
 rcases Bool.eq_false_or_eq_true (decide (r86.Code ≠ (0 : Int))) with hb119 | hb119
 have h := ite_t hb119 h
 refine Tn (.pointer (some ⟨g85, 1, none⟩)) 88 rfl rfl rfl hb119 (PO.fieldAddr fo40_1 rfl rfl) rfl ?_
 refine Tn vq83_1 88 rfl rfl rfl hb119 (PO.loadB 3 pl26 rfl rfl rfl) rfl ?_
 refine Tn (.int .i64 (r78.Body.length : Int)) 88 rfl rfl rfl hb119 (PO.lenS Tryd.underlying26 rfl hq83_1.len) rfl ?_
 refine Tn (.bool (decide ((0 : Int) < (r78.Body.length : Int)))) 88 rfl rfl rfl hb119 (PO.gtr rfl rfl) rfl ?_
 refine Tn (.bool (decide ((0 : Int) < (r78.Body.length : Int)))) 84 rfl rfl rfl hb118 (PO.pickT rfl hb119 rfl) rfl ?_
 refine Tp (.bool (decide ((0 : Int) < (r78.Body.length : Int)))) rfl (PO.pickF rfl hb118 rfl) rfl ?_
 refine WT.fin ?_
 refine WQ.f1 ?_
 refine WQ.drop ?_
 refine WQ.f7 ?_
 refine WQ.f1 ?_
 refine WQ.f7 ?_
 refine WQ.f7 ?_
 refine WQ.f7 ?_
 refine WQ.f7 ?_
 refine WQ.f7 ?_
 refine WQ.f7 ?_
 obtain rfl := Option.some.inj h
 refine WQ.thenJ ?_
 exact ⟨((hle97.trans hle105).trans hle110), rfl, rfl⟩
 have h := ite_f hb119 h
 refine WT.pureOff 88 rfl rfl rfl hb119 rfl ?_
 refine WT.pureOff 88 rfl rfl rfl hb119 rfl ?_
 refine WT.pureOff 88 rfl rfl rfl hb119 rfl ?_
 refine WT.pureOff 88 rfl rfl rfl hb119 rfl ?_
 refine Tn (.bool false) 84 rfl rfl rfl hb118 (PO.pickF rfl hb119 rfl) rfl ?_
 refine Tp (.bool false) rfl (PO.pickF rfl hb118 rfl) rfl ?_
 refine WT.fin ?_
 refine WQ.f1 ?_
 refine WQ.drop ?_
 refine WQ.f7 ?_
 refine WQ.f1 ?_
 refine WQ.f7 ?_
 refine WQ.f7 ?_
 refine WQ.f7 ?_
 refine WQ.f7 ?_
 refine WQ.f7 ?_
 refine WQ.f7 ?_
 obtain rfl := Option.some.inj h
 refine WQ.thenJ ?_
 exact ⟨((hle97.trans hle105).trans hle110), rfl, rfl⟩
 exact WT.no
 exact WT.no
 have h := ite_f hb100 h
 refine WT.pureOff 70 rfl rfl rfl hb100 rfl ?_
 refine WT.pureOff 70 rfl rfl rfl hb100 rfl ?_
 refine WT.pureOff 70 rfl rfl rfl hb100 rfl ?_
 refine WT.pureOff 70 rfl rfl rfl hb100 rfl ?_
 refine WT.pureOffU 74 rfl rfl rfl  rfl ?_
 refine WT.pureOffU 74 rfl rfl rfl  rfl ?_
 refine WT.pureOffU 74 rfl rfl rfl  rfl ?_
 refine WT.altOffU 74 rfl rfl rfl  rfl ⟨(StabL.anc rfl (StabL.st (StabA.offU 74 rfl rfl rfl rfl) (StabL.st (StabA.offU 74 rfl rfl rfl rfl) (StabL.anc rfl (StabL.anc rfl (StabL.anc rfl (StabL.anc rfl (StabL.anc rfl (StabL.anc rfl (StabL.anc rfl (StabL.anc rfl (StabL.anc rfl (StabL.anc rfl (StabL.anc rfl (StabL.anc rfl trivial))))))))))))))), ?_⟩ ?_
 refine WT.altOffU 74 rfl rfl rfl  rfl ⟨(StabL.anc rfl (StabL.anc rfl (StabL.anc rfl (StabL.anc rfl (StabL.anc rfl (StabL.anc rfl (StabL.anc rfl (StabL.anc rfl (StabL.anc rfl (StabL.anc rfl (StabL.anc rfl (StabL.anc rfl (StabL.anc rfl (StabL.anc rfl (StabL.anc rfl trivial))))))))))))))), ?_⟩ ?_
 refine WT.pureOffU 74 rfl rfl rfl  rfl ?_
 refine WT.pureOff 70 rfl rfl rfl hb100 rfl ?_
 refine Tn (.bool false) 66 rfl rfl rfl hb99 (PO.pickF rfl hb100 rfl) rfl ?_
 refine Tp (.bool false) rfl (PO.pickF rfl hb99 rfl) rfl ?_
 refine Tp (.bool false) rfl (PO.move rfl) rfl ?_
 refine Tn (.pointer (some ⟨g91, 2, none⟩)) 84 rfl rfl rfl rfl (PO.fieldAddr fo77_2 rfl rfl) rfl ?_
 refine Tn (.int .i64 r86.Code) 84 rfl rfl rfl rfl (PO.loadB 0 pl47 rfl rfl rfl) rfl ?_
 refine Tn (.bool (decide (r86.Code ≠ (0 : Int)))) 84 rfl rfl rfl rfl (PO.neq rfl rfl) rfl ?_
 refine Tn (.bool (decide (r86.Code ≠ (0 : Int)))) 84 rfl rfl rfl rfl (PO.move rfl) rfl ?_
 rcases Bool.eq_false_or_eq_true (decide (r86.Code ≠ (0 : Int))) with hb120 | hb120
 have h := ite_t hb120 h
 refine Tn (.pointer (some ⟨g85, 1, none⟩)) 88 rfl rfl rfl hb120 (PO.fieldAddr fo40_1 rfl rfl) rfl ?_
 refine Tn vq83_1 88 rfl rfl rfl hb120 (PO.loadB 1 pl26 rfl rfl rfl) rfl ?_
 refine Tn (.int .i64 (r78.Body.length : Int)) 88 rfl rfl rfl hb120 (PO.lenS Tryd.underlying26 rfl hq83_1.len) rfl ?_
 refine Tn (.bool (decide ((0 : Int) < (r78.Body.length : Int)))) 88 rfl rfl rfl hb120 (PO.gtr rfl rfl) rfl ?_
 refine Tn (.bool (decide ((0 : Int) < (r78.Body.length : Int)))) 84 rfl rfl rfl rfl (PO.pickT rfl hb120 rfl) rfl ?_
 refine Tp (.bool (decide ((0 : Int) < (r78.Body.length : Int)))) rfl (PO.pickF rfl rfl rfl) rfl ?_
 refine WT.fin ?_
 refine WQ.f7 ?_
 refine WQ.f3 ?_
 refine WQ.f7 ?_
 refine WQ.f7 ?_
 refine WQ.f7 ?_
 refine WQ.f7 ?_
 refine WQ.f7 ?_
 refine WQ.f7 ?_
 obtain rfl := Option.some.inj h
 refine WQ.thenJ ?_
 exact ⟨hle97, rfl, rfl⟩
 have h := ite_f hb120 h
 refine WT.pureOff 88 rfl rfl rfl hb120 rfl ?_
 refine WT.pureOff 88 rfl rfl rfl hb120 rfl ?_
 refine WT.pureOff 88 rfl rfl rfl hb120 rfl ?_
 refine WT.pureOff 88 rfl rfl rfl hb120 rfl ?_
 refine Tn (.bool false) 84 rfl rfl rfl rfl (PO.pickF rfl hb120 rfl) rfl ?_
 refine Tp (.bool false) rfl (PO.pickF rfl rfl rfl) rfl ?_
 refine WT.fin ?_
 refine WQ.f7 ?_
 refine WQ.f3 ?_
 refine WQ.f7 ?_
 refine WQ.f7 ?_
 refine WQ.f7 ?_
 refine WQ.f7 ?_
 refine WQ.f7 ?_
 refine WQ.f7 ?_
 obtain rfl := Option.some.inj h
 refine WQ.thenJ ?_
 exact ⟨hle97, rfl, rfl⟩
 exact WT.no
 exact WT.no
 exact WT.no
 rintro ρ93 M93 H93 ⟨hle93, rfl, hs93_94⟩
 have hq83_1 := hq83_1.mono hle93
 have hq39_1 := hq39_1.mono hle93
 have h0_10 := h0_10.mono hle93
 have hE := hE.mono hle93
 refine WC.cond (b := x92) hs93_94 (fun hb121 => ?_) (fun hb121 => ?_)
 have h := ite_t hb121 h
 refine Sr ?_
 refine Pa (.bool false) rfl rfl ?_
 refine Nt ?_
 refine WC.ret ?_
 refine WQ.thenR ?_
 refine WQ.drop ?_
 refine WQ.drop ?_
 refine WQ.drop ?_
 refine WQ.drop ?_
 refine WQ.drop ?_
 refine WQ.drop ?_
 refine WQ.drop ?_
 refine WQ.drop ?_
 exact WQ.returnsF h [] rfl (results1 rfl rfl) ((((((hle26.trans hle38).trans hle45).trans hle49).trans hle82).trans hle89).trans hle93) ⟨rfl, rfl⟩
 have h := ite_f hb121 h
 refine WC.skip ?_
 refine WQ.thenC ?_
 refine Sr ?_
 obtain ⟨r122, hr123, h⟩ := bnd h
 refine WL.eff (EO.call0 co28 (f_law22_works_ok _ r122 hr123) (args0)) rfl ?_
 rintro _ M124 _ hle125 ⟨_, ⟨rfl, rfl⟩, rfl⟩
 have hq83_1 := hq83_1.mono hle125
 have hq39_1 := hq39_1.mono hle125
 have h0_10 := h0_10.mono hle125
 have hE := hE.mono hle125
 refine WL.a0 ?_
 refine Pa (.bool r122) rfl rfl ?_
 refine Nt ?_
 refine WC.ret ?_
 refine WQ.drop ?_
 refine WQ.drop ?_
 refine WQ.drop ?_
 refine WQ.drop ?_
 refine WQ.drop ?_
 refine WQ.drop ?_
 refine WQ.drop ?_
 refine WQ.drop ?_
 exact WQ.returnsF h [] rfl (results1 rfl rfl) (((((((hle26.trans hle38).trans hle45).trans hle49).trans hle82).trans hle89).trans hle93).trans hle125) ⟨rfl, rfl⟩


end Go.Proofs.YtjgnbbakamellaaDoor.G
