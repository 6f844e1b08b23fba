/- Go functions: what they come to, and that they do. Printed by a program of the session (gen). -/
import Derived.Test.YtmifmgpfjamdkaaDoorEF
import Derived.Test.YtmifmgpfjamdkaaDoorE3
import Derived.Test.YtmifmgpfjamdkaaDoorKAny
set_option linter.unusedVariables false
set_option linter.unusedSimpArgs false
namespace Go.Proofs.YtmifmgpfjamdkaaDoor.G
open Go Go.KK

noncomputable def f_law01_FaultAgain (a0 : T_ref01_Chain) (a1 : T_ref01_Chain) : Option Bool :=
  ((((f_law01_light a0).bind fun (r25 : Bool) => (if (!r25) = true then (some true) else ((f_law01_light a1).bind fun (r31 : Bool) => (some (!r31))))) : Option Bool).bind fun (x23 : Bool) => (if x23 = true then ((f_law01_works).bind fun (r37 : Bool) => (some r37)) else ((((f_law01_made a0).bind fun (r44 : GErr) => (anyE r44 fun (e49 : GErr) => ((f_fault_Again e49).bind fun (r51 : GErr) => ((f_ref01_Again a0).bind fun (r56 : T_ref01_Chain) => ((f_law01_same r51 r56).bind fun (r61 : Bool) => (if r61 = true then ((f_law01_made a0).bind fun (r67 : GErr) => (anyE r67 fun (e72 : GErr) => ((f_law01_made a1).bind fun (r74 : GErr) => (anyE r74 fun (e79 : GErr) => ((f_fault_Both e72 e79).bind fun (r81 : GErr) => ((f_ref01_Both a0 a1).bind fun (r86 : T_ref01_Chain) => ((f_law01_same r81 r86).bind fun (r91 : Bool) => (if r91 = true then ((f_law01_works).bind fun (r97 : Bool) => (some r97)) else (some false))))))))) else (some false))))))) : Option Bool).bind fun (x42 : Bool) => (some x42))))
def f_law01_FaultAgain_post (a0 : T_ref01_Chain) (a1 : T_ref01_Chain) (v0_0 v1_0 : Value) : Bool → Value → IM → HL → Prop :=
  fun (r0 : Bool) (v : Value) (M' : IM) (H' : HL) => (.bool r0) = v ∧ H' = []
set_option maxHeartbeats 8000000 in
set_option maxRecDepth 100000 in
theorem f_law01_FaultAgain_ok (a0 : T_ref01_Chain) (a1 : T_ref01_Chain) (M : IM) (v0_0 v1_0 : Value) (h0_0 : RS kd_ref01_Step M v0_0 a0.Steps) (h1_0 : RS kd_ref01_Step M v1_0 a1.Steps) (hE : Env M) (res : Bool) (h : f_law01_FaultAgain a0 a1 = some res) :
    Tri Tryd.prog 4 #[(.agg #[v0_0, (.int .i64 a0.Code)]), (.agg #[v1_0, (.int .i64 a1.Code)])] M [] (f_law01_FaultAgain_post a0 a1 v0_0 v1_0 res) := by
 unfold f_law01_FaultAgain at h
 refine Tri.enter (fn := Tryd.f4) Tryd.func4 rfl (Nat.le_of_ble_eq_true rfl) ?_
 intro F ρ hρ
 refine Sr ?_
 refine WL.eff (EO.box (cs := #[v0_0, (.int .i64 a0.Code)]) (congrArg Value.cells (asE (.agg #[v0_0, (.int .i64 a0.Code)]) (hρ 0)))) rfl ?_
 rintro _ _ _ - ⟨rfl, g21, rfl, rfl⟩
 refine WL.eff (EO.box (cs := #[v1_0, (.int .i64 a1.Code)]) (congrArg Value.cells (asE (.agg #[v1_0, (.int .i64 a1.Code)]) (hρ 1)))) rfl ?_
 rintro _ _ _ - ⟨rfl, g22, rfl, rfl⟩
 refine Pa (.bool false) rfl rfl ?_
 refine Nt ?_
 refine WC.seq ?_
 obtain ⟨x23, hj24, h⟩ := bnd h
 refine WC.joinF (fun (x23 : Bool) ρ' M' H' => M.le M' ∧ [(g22, .cells #[v1_0, (.int .i64 a1.Code)] 24 (0, 0))] :: [(g21, .cells #[v0_0, (.int .i64 a0.Code)] 24 (0, 0))] :: F = H' ∧ ρ' 2 = (.pointer (some ⟨g21, 0, none⟩)) ∧ ρ' 3 = (.pointer (some ⟨g22, 0, none⟩)) ∧ ρ' 12 = (.bool x23)) x23 ?_ ?_
 have h324 := h
 have h := hj24
 refine WC.region ?_
 refine Pu (.agg #[v0_0, (.int .i64 a0.Code)]) (PO.loadBA (cs := [v0_0, (.int .i64 a0.Code)]) 1 ag24 sz24 rfl rfl rfl) rfl ?_
 obtain ⟨r25, hr26, h⟩ := bnd h
 refine WL.eff (EO.call0 co6 (f_law01_light_ok a0 _ _ h0_0 r25 hr26) (args1 rfl)) rfl ?_
 rintro _ M27 _ hle28 ⟨_, ⟨rfl, rfl⟩, rfl⟩
 have h0_0 := h0_0.mono hle28
 have h1_0 := h1_0.mono hle28
 have hE := hE.mono hle28
 refine WL.a0 ?_
 refine Pu (.bool (!r25)) (PO.not rfl) rfl ?_
 refine Pm (.bool (!r25)) rfl rfl ?_
 rcases Bool.eq_false_or_eq_true (!r25) with hb30 | hb30
 have h := ite_t hb30 h
 iterate 3 refine Of 8 rfl rfl hb30 rfl ?_
 refine Pu (.bool true) (PO.pickT rfl hb30 rfl) rfl ?_
 refine WL.nil ?_
 obtain rfl := Option.some.inj h
 refine WQ.thenJ ?_
 exact ⟨hle28, rfl, rfl, rfl, rfl⟩
 have h := ite_f hb30 h
 refine On 8 rfl rfl hb30 ?_
 refine Pu (.agg #[v1_0, (.int .i64 a1.Code)]) (PO.loadBA (cs := [v1_0, (.int .i64 a1.Code)]) 0 ag24 sz24 rfl rfl rfl) rfl ?_
 refine On 8 rfl rfl hb30 ?_
 obtain ⟨r31, hr32, h⟩ := bnd h
 refine WL.eff (EO.call0 co6 (f_law01_light_ok a1 _ _ h1_0 r31 hr32) (args1 rfl)) rfl ?_
 rintro _ M33 _ hle34 ⟨_, ⟨rfl, rfl⟩, rfl⟩
 have h0_0 := h0_0.mono hle34
 have h1_0 := h1_0.mono hle34
 have hE := hE.mono hle34
 refine WL.a0 ?_
 refine On 8 rfl rfl hb30 ?_
 refine Pu (.bool (!r31)) (PO.not rfl) rfl ?_
 refine Pu (.bool (!r31)) (PO.pickF rfl hb30 rfl) rfl ?_
 refine WL.nil ?_
 obtain rfl := Option.some.inj h
 refine WQ.thenJ ?_
 exact ⟨(hle28.trans hle34), rfl, rfl, rfl, rfl⟩
 rintro ρ24 M24 H24 ⟨hle24, rfl, hs24_2, hs24_3, hs24_12⟩
 have h1_0 := h1_0.mono hle24
 have h0_0 := h0_0.mono hle24
 have hE := hE.mono hle24
 refine WC.cond (b := x23) hs24_12 (fun hb36 => ?_) (fun hb36 => ?_)
 have h := ite_t hb36 h
 refine Sr ?_
 obtain ⟨r37, hr38, h⟩ := bnd h
 refine WL.eff (EO.call0 co7 (f_law01_works_ok _ hE r37 hr38) (args0)) rfl ?_
 rintro _ M39 _ hle40 ⟨_, ⟨rfl, rfl⟩, rfl⟩
 have h1_0 := h1_0.mono hle40
 have h0_0 := h0_0.mono hle40
 have hE := hE.mono hle40
 refine WL.a0 ?_
 refine Pa (.bool r37) rfl rfl ?_
 refine Nt ?_
 refine WC.ret ?_
 refine WQ.thenR ?_
 refine WQ.drop ?_
 refine WQ.drop ?_
 exact WQ.returnsF h [] rfl (results1 rfl rfl) (hle24.trans hle40) ⟨rfl, rfl⟩
 have h := ite_f hb36 h
 refine WC.skip ?_
 refine WQ.thenC ?_
 obtain ⟨x42, hj43, h⟩ := bnd h
 refine WC.joinF (fun (x42 : Bool) ρ' M' H' => M24.le M' ∧ [(g22, .cells #[v1_0, (.int .i64 a1.Code)] 24 (0, 0))] :: [(g21, .cells #[v0_0, (.int .i64 a0.Code)] 24 (0, 0))] :: F = H' ∧ ρ' 4 = (.bool x42)) x42 ?_ ?_
 have h343 := h
 have h := hj43
 refine WC.draw [0, 1, 3, 0, 15, 31, 63, 127, 255, 127, 1023, 2047, 127, 127, 16383, 32767, 65535, 131071, 262143, 524287, 1048575] (.pure 0 (.pure 3 (.alt 1 (.alt 2 (.alt 4 (.alt 5 (.pure 6 (.pure 7 (.pure 9 (.pure 12 (.pure 13 (.alt 8 (.alt 10 (.alt 11 (.alt 14 (.alt 15 (.pure 16 (.pure 17 (.alt 18 (.pure 19 (.pure 20 .done)) .none))) .none) .none) .none) .none) .none)))))) .none) .none) .none) .none))) mixed (by kernel_rfl) ?_
 refine Tp (.agg #[v0_0, (.int .i64 a0.Code)]) rfl (PO.loadBA (cs := [v0_0, (.int .i64 a0.Code)]) 1 ag24 sz24 hs24_2 rfl rfl) rfl ?_
 refine Tp (.agg #[v0_0, (.int .i64 a0.Code)]) rfl (PO.loadBA (cs := [v0_0, (.int .i64 a0.Code)]) 1 ag24 sz24 hs24_2 rfl rfl) rfl ?_
 obtain ⟨r44, hr45, h⟩ := bnd h
 refine WT.alt rfl (EO.call0 co8 (f_law01_made_ok a0 _ _ h0_0 r44 hr45) (args1 rfl)) rfl ?_ ?_
 rintro _ M46 _ hle47 ⟨_, ⟨e49, rfl, rfl, he50⟩, rfl⟩
 have h0_0 := h0_0.mono hle47
 have h1_0 := h1_0.mono hle47
 have hE := hE.mono hle47
 have h := anyE_at h he50
 refine ⟨(StabL.st (StabA.of rfl (PO.loadBA (cs := [v0_0, (.int .i64 a0.Code)]) 1 ag24 sz24 hs24_2 rfl rfl) rfl) (StabL.anc rfl trivial)), ?_⟩
 refine WT.a0 ?_
 obtain ⟨r51, hr52, h⟩ := bnd h
 refine WT.alt rfl (EO.call0 co15 (f_fault_Again_ok e49 _ hE r51 hr52) (args1 rfl)) rfl ?_ ?_
 rintro _ M53 _ hle54 ⟨_, ⟨rfl, rfl⟩, rfl⟩
 have h0_0 := h0_0.mono hle54
 have h1_0 := h1_0.mono hle54
 have hE := hE.mono hle54
 refine ⟨(StabL.st (StabA.of rfl (PO.loadBA (cs := [v0_0, (.int .i64 a0.Code)]) 1 ag24 sz24 hs24_2 rfl rfl) rfl) (StabL.anc rfl trivial)), ?_⟩
 refine WT.a0 ?_
 obtain ⟨r56, hr57, h⟩ := bnd h
 refine WT.alt rfl (EO.call0 co16 (f_ref01_Again_ok a0 _ _ h0_0 r56 hr57) (args1 rfl)) rfl ?_ ?_
 rintro _ M58 _ hle59 ⟨_, ⟨vq60_0, rfl, rfl, hq60_0⟩, rfl⟩
 have h0_0 := h0_0.mono hle59
 have h1_0 := h1_0.mono hle59
 have hE := hE.mono hle59
 refine ⟨(StabL.anc rfl (StabL.anc rfl trivial)), ?_⟩
 refine WT.a0 ?_
 obtain ⟨r61, hr62, h⟩ := bnd h
 refine WT.alt rfl (EO.call0 co14 (f_law01_same_ok r51 r56 _ _ hq60_0 hE r61 hr62) (args2 rfl rfl)) rfl ?_ ?_
 rintro _ M63 _ hle64 ⟨_, ⟨rfl, rfl⟩, rfl⟩
 have h0_0 := h0_0.mono hle64
 have hq60_0 := hq60_0.mono hle64
 have h1_0 := h1_0.mono hle64
 have hE := hE.mono hle64
 refine ⟨(StabL.anc rfl (StabL.anc rfl trivial)), ?_⟩
 refine WT.a0 ?_
 refine Tp (.bool r61) rfl (PO.move rfl) rfl ?_
 rcases Bool.eq_false_or_eq_true (r61) with hb66 | hb66
 have h := ite_t hb66 h
 refine Tn (.agg #[v0_0, (.int .i64 a0.Code)]) 20 rfl rfl rfl hb66 (PO.loadBA (cs := [v0_0, (.int .i64 a0.Code)]) 1 ag24 sz24 hs24_2 rfl rfl) rfl ?_
 refine Tn (.agg #[v1_0, (.int .i64 a1.Code)]) 20 rfl rfl rfl hb66 (PO.loadBA (cs := [v1_0, (.int .i64 a1.Code)]) 0 ag24 sz24 hs24_3 rfl rfl) rfl ?_
 refine Tn (.agg #[v0_0, (.int .i64 a0.Code)]) 20 rfl rfl rfl hb66 (PO.loadBA (cs := [v0_0, (.int .i64 a0.Code)]) 1 ag24 sz24 hs24_2 rfl rfl) rfl ?_
 refine Tn (.agg #[v1_0, (.int .i64 a1.Code)]) 20 rfl rfl rfl hb66 (PO.loadBA (cs := [v1_0, (.int .i64 a1.Code)]) 0 ag24 sz24 hs24_3 rfl rfl) rfl ?_
 obtain ⟨r67, hr68, h⟩ := bnd h
 refine WT.altOn 20 rfl rfl rfl hb66 (EO.call0 co8 (f_law01_made_ok a0 _ _ h0_0 r67 hr68) (args1 rfl)) rfl ?_ ?_
 rintro _ M69 _ hle70 ⟨_, ⟨e72, rfl, rfl, he73⟩, rfl⟩
 have h0_0 := h0_0.mono hle70
 have hq60_0 := hq60_0.mono hle70
 have h1_0 := h1_0.mono hle70
 have hE := hE.mono hle70
 have h := anyE_at h he73
 refine ⟨(StabL.st (StabA.on 20 rfl rfl rfl hb66 (PO.loadBA (cs := [v1_0, (.int .i64 a1.Code)]) 0 ag24 sz24 hs24_3 rfl rfl) rfl) (StabL.st (StabA.on 20 rfl rfl rfl hb66 (PO.loadBA (cs := [v0_0, (.int .i64 a0.Code)]) 1 ag24 sz24 hs24_2 rfl rfl) rfl) (StabL.st (StabA.on 20 rfl rfl rfl hb66 (PO.loadBA (cs := [v1_0, (.int .i64 a1.Code)]) 0 ag24 sz24 hs24_3 rfl rfl) rfl) (StabL.anc rfl (StabL.anc rfl (StabL.anc rfl (StabL.anc rfl trivial))))))), ?_⟩
 refine WT.a0 ?_
 obtain ⟨r74, hr75, h⟩ := bnd h
 refine WT.altOn 20 rfl rfl rfl hb66 (EO.call0 co8 (f_law01_made_ok a1 _ _ h1_0 r74 hr75) (args1 rfl)) rfl ?_ ?_
 rintro _ M76 _ hle77 ⟨_, ⟨e79, rfl, rfl, he80⟩, rfl⟩
 have h0_0 := h0_0.mono hle77
 have hq60_0 := hq60_0.mono hle77
 have h1_0 := h1_0.mono hle77
 have hE := hE.mono hle77
 have h := anyE_at h he80
 refine ⟨(StabL.st (StabA.on 20 rfl rfl rfl hb66 (PO.loadBA (cs := [v1_0, (.int .i64 a1.Code)]) 0 ag24 sz24 hs24_3 rfl rfl) rfl) (StabL.st (StabA.on 20 rfl rfl rfl hb66 (PO.loadBA (cs := [v0_0, (.int .i64 a0.Code)]) 1 ag24 sz24 hs24_2 rfl rfl) rfl) (StabL.anc rfl (StabL.anc rfl (StabL.anc rfl (StabL.anc rfl (StabL.anc rfl trivial))))))), ?_⟩
 refine WT.a0 ?_
 obtain ⟨r81, hr82, h⟩ := bnd h
 refine WT.altOn 20 rfl rfl rfl hb66 (EO.call0 co17 (f_fault_Both_ok e72 e79 _ hE r81 hr82) (args2 rfl rfl)) rfl ?_ ?_
 rintro _ M83 _ hle84 ⟨_, ⟨rfl, rfl⟩, rfl⟩
 have h0_0 := h0_0.mono hle84
 have hq60_0 := hq60_0.mono hle84
 have h1_0 := h1_0.mono hle84
 have hE := hE.mono hle84
 refine ⟨(StabL.st (StabA.on 20 rfl rfl rfl hb66 (PO.loadBA (cs := [v1_0, (.int .i64 a1.Code)]) 0 ag24 sz24 hs24_3 rfl rfl) rfl) (StabL.st (StabA.on 20 rfl rfl rfl hb66 (PO.loadBA (cs := [v0_0, (.int .i64 a0.Code)]) 1 ag24 sz24 hs24_2 rfl rfl) rfl) (StabL.anc rfl (StabL.anc rfl (StabL.anc rfl (StabL.anc rfl (StabL.anc rfl trivial))))))), ?_⟩
 refine WT.a0 ?_
 obtain ⟨r86, hr87, h⟩ := bnd h
 refine WT.altOn 20 rfl rfl rfl hb66 (EO.call0 co18 (f_ref01_Both_ok a0 a1 _ _ _ h0_0 h1_0 r86 hr87) (args2 rfl rfl)) rfl ?_ ?_
 rintro _ M88 _ hle89 ⟨_, ⟨vq90_0, rfl, rfl, hq90_0⟩, rfl⟩
 have h0_0 := h0_0.mono hle89
 have hq60_0 := hq60_0.mono hle89
 have h1_0 := h1_0.mono hle89
 have hE := hE.mono hle89
 refine ⟨(StabL.anc rfl (StabL.anc rfl (StabL.anc rfl (StabL.anc rfl (StabL.anc rfl (StabL.anc rfl (StabL.anc rfl trivial))))))), ?_⟩
 refine WT.a0 ?_
 obtain ⟨r91, hr92, h⟩ := bnd h
 refine WT.altOn 20 rfl rfl rfl hb66 (EO.call0 co14 (f_law01_same_ok r81 r86 _ _ hq90_0 hE r91 hr92) (args2 rfl rfl)) rfl ?_ ?_
 rintro _ M93 _ hle94 ⟨_, ⟨rfl, rfl⟩, rfl⟩
 have h0_0 := h0_0.mono hle94
 have hq60_0 := hq60_0.mono hle94
 have h1_0 := h1_0.mono hle94
 have hq90_0 := hq90_0.mono hle94
 have hE := hE.mono hle94
 refine ⟨(StabL.anc rfl (StabL.anc rfl (StabL.anc rfl (StabL.anc rfl (StabL.anc rfl (StabL.anc rfl (StabL.anc rfl trivial))))))), ?_⟩
 refine WT.a0 ?_
 refine Tp (.bool r91) rfl (PO.pickT rfl hb66 rfl) rfl ?_
 refine Tp (.bool r91) rfl (PO.move rfl) rfl ?_
 rcases Bool.eq_false_or_eq_true (r91) with hb96 | hb96
 have h := ite_t hb96 h
 obtain ⟨r97, hr98, h⟩ := bnd h
 refine WT.altOn 31 rfl rfl rfl hb96 (EO.call0 co7 (f_law01_works_ok _ hE r97 hr98) (args0)) rfl ?_ ?_
 rintro _ M99 _ hle100 ⟨_, ⟨rfl, rfl⟩, rfl⟩
 have h0_0 := h0_0.mono hle100
 have hq60_0 := hq60_0.mono hle100
 have h1_0 := h1_0.mono hle100
 have hq90_0 := hq90_0.mono hle100
 have hE := hE.mono hle100
 refine ⟨(StabL.anc rfl (StabL.anc rfl (StabL.anc rfl (StabL.anc rfl (StabL.anc rfl (StabL.anc rfl (StabL.anc rfl (StabL.anc rfl (StabL.anc rfl trivial))))))))), ?_⟩
 refine WT.a0 ?_
 refine Tp (.bool r97) rfl (PO.pickT rfl hb96 rfl) rfl ?_
 refine Tp (.bool r97) rfl (PO.assign rfl) rfl ?_
 refine WT.fin ?_
 obtain rfl := Option.some.inj h
 refine WQ.thenJ ?_
 exact ⟨(((((((((hle47.trans hle54).trans hle59).trans hle64).trans hle70).trans hle77).trans hle84).trans hle89).trans hle94).trans hle100), rfl, rfl⟩
 exact WT.no
 have h := ite_f hb96 h
 refine WT.altOff 31 rfl rfl rfl hb96 rfl ⟨(StabL.anc rfl (StabL.anc rfl (StabL.anc rfl (StabL.anc rfl (StabL.anc rfl (StabL.anc rfl (StabL.anc rfl (StabL.anc rfl (StabL.anc rfl trivial))))))))), ?_⟩ ?_
 refine Tp (.bool false) rfl (PO.pickF rfl hb96 rfl) rfl ?_
 refine Tp (.bool false) rfl (PO.assign rfl) rfl ?_
 refine WT.fin ?_
 obtain rfl := Option.some.inj h
 refine WQ.thenJ ?_
 exact ⟨((((((((hle47.trans hle54).trans hle59).trans hle64).trans hle70).trans hle77).trans hle84).trans hle89).trans hle94), rfl, rfl⟩
 exact WT.no
 exact WT.no
 exact WT.no
 exact WT.no
 exact WT.no
 exact WT.no
 have h := ite_f hb66 h
 refine WT.pureOff 20 rfl rfl rfl hb66 rfl ?_
 refine WT.pureOff 20 rfl rfl rfl hb66 rfl ?_
 refine WT.pureOff 20 rfl rfl rfl hb66 rfl ?_
 refine WT.pureOff 20 rfl rfl rfl hb66 rfl ?_
 refine WT.altOff 20 rfl rfl rfl hb66 rfl ⟨(StabL.st (StabA.off 20 rfl rfl rfl hb66 rfl) (StabL.st (StabA.off 20 rfl rfl rfl hb66 rfl) (StabL.st (StabA.off 20 rfl rfl rfl hb66 rfl) (StabL.anc rfl (StabL.anc rfl (StabL.anc rfl (StabL.anc rfl trivial))))))), ?_⟩ ?_
 refine WT.altOff 20 rfl rfl rfl hb66 rfl ⟨(StabL.st (StabA.off 20 rfl rfl rfl hb66 rfl) (StabL.st (StabA.off 20 rfl rfl rfl hb66 rfl) (StabL.anc rfl (StabL.anc rfl (StabL.anc rfl (StabL.anc rfl (StabL.anc rfl trivial))))))), ?_⟩ ?_
 refine WT.altOff 20 rfl rfl rfl hb66 rfl ⟨(StabL.st (StabA.off 20 rfl rfl rfl hb66 rfl) (StabL.st (StabA.off 20 rfl rfl rfl hb66 rfl) (StabL.anc rfl (StabL.anc rfl (StabL.anc rfl (StabL.anc rfl (StabL.anc rfl trivial))))))), ?_⟩ ?_
 refine WT.altOff 20 rfl rfl rfl hb66 rfl ⟨(StabL.anc rfl (StabL.anc rfl (StabL.anc rfl (StabL.anc rfl (StabL.anc rfl (StabL.anc rfl (StabL.anc rfl trivial))))))), ?_⟩ ?_
 refine WT.altOff 20 rfl rfl rfl hb66 rfl ⟨(StabL.anc rfl (StabL.anc rfl (StabL.anc rfl (StabL.anc rfl (StabL.anc rfl (StabL.anc rfl (StabL.anc rfl trivial))))))), ?_⟩ ?_
 refine Tp (.bool false) rfl (PO.pickF rfl hb66 rfl) rfl ?_
 refine Tp (.bool false) rfl (PO.move rfl) rfl ?_
 refine WT.altOff 31 rfl rfl rfl rfl rfl ⟨(StabL.anc rfl (StabL.anc rfl (StabL.anc rfl (StabL.anc rfl (StabL.anc rfl (StabL.anc rfl (StabL.anc rfl (StabL.anc rfl (StabL.anc rfl trivial))))))))), ?_⟩ ?_
 refine Tp (.bool false) rfl (PO.pickF rfl rfl rfl) rfl ?_
 refine Tp (.bool false) rfl (PO.assign rfl) rfl ?_
 refine WT.fin ?_
 obtain rfl := Option.some.inj h
 refine WQ.thenJ ?_
 exact ⟨(((hle47.trans hle54).trans hle59).trans hle64), rfl, rfl⟩
 exact WT.no
 exact WT.no
 exact WT.no
 exact WT.no
 exact WT.no
 exact WT.no
 exact WT.no
 exact WT.no
 exact WT.no
 exact WT.no
 rintro ρ43 M43 H43 ⟨hle43, rfl, hs43_4⟩
 have h1_0 := h1_0.mono hle43
 have h0_0 := h0_0.mono hle43
 have hE := hE.mono hle43
 refine WC.ret ?_
 refine WQ.drop ?_
 refine WQ.drop ?_
 exact WQ.returnsF h [] rfl (results1 rfl hs43_4) (hle24.trans hle43) ⟨rfl, rfl⟩


end Go.Proofs.YtmifmgpfjamdkaaDoor.G
