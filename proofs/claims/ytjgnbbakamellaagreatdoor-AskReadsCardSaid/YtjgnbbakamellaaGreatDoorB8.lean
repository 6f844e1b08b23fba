/- Go functions: what they come to, and that they do. Printed by a program of the session (gen). -/
import Derived.Test.YtjgnbbakamellaaGreatDoorBF
import Derived.Test.YtjgnbbakamellaaGreatDoorB7
import Derived.Test.YtjgnbbakamellaaGreatDoorKConv
import Derived.Test.YtjgnbbakamellaaGreatDoorKEq2
set_option linter.unusedVariables false
set_option linter.unusedSimpArgs false
set_option maxHeartbeats 8000000
set_option maxRecDepth 100000
namespace Go.Proofs.YtjgnbbakamellaaGreatDoor.G
open Go Go.KK

noncomputable def f_ask_Same (a0 : T_api_Request) (a1 : T_api_Request) : Option Bool :=
  ((((f_ask_Same_1 a0).bind fun (r25 : (List Int)) => ((f_ask_Same_1 a1).bind fun (r30 : (List Int)) => (if (andL [decide ((rd r25 (0 : Int)) = (rd r30 (0 : Int))), decide ((rd r25 (1 : Int)) = (rd r30 (1 : Int))), decide ((rd r25 (2 : Int)) = (rd r30 (2 : Int))), decide ((rd r25 (3 : Int)) = (rd r30 (3 : Int))), decide ((rd r25 (4 : Int)) = (rd r30 (4 : Int))), decide ((rd r25 (5 : Int)) = (rd r30 (5 : Int))), decide ((rd r25 (6 : Int)) = (rd r30 (6 : Int))), decide ((rd r25 (7 : Int)) = (rd r30 (7 : Int)))]) = true then ((f_ask_Same_2 a0).bind fun (r36 : (List ByteArray)) => ((f_ask_Same_2 a1).bind fun (r41 : (List ByteArray)) => (if (andL [(rd r36 (0 : Int)) == (rd r41 (0 : Int)), (rd r36 (1 : Int)) == (rd r41 (1 : Int)), (rd r36 (2 : Int)) == (rd r41 (2 : Int)), (rd r36 (3 : Int)) == (rd r41 (3 : Int))]) = true then (if (a0.Flag == a1.Flag) = true then (if (andL [decide (a0.Word.Broker = a1.Word.Broker), decide (a0.Word.Epoch = a1.Word.Epoch), decide (a0.Word.High = a1.Word.High), a0.Word.Fence == a1.Word.Fence, a0.Word.Leave == a1.Word.Leave]) = true then ((f_slices_Equal_int_int a0.Ids a1.Ids).bind fun (r49 : Bool) => (some r49)) else (some false)) else (some false)) else (some false)))) else (some false)))) : Option Bool).bind fun (x23 : Bool) => (some x23))
def f_ask_Same_post (a0 : T_api_Request) (a1 : T_api_Request) (v0_10 v1_10 : Value) : Bool → Value → IM → HL → Prop :=
  fun (r0 : Bool) (v : Value) (M' : IM) (H' : HL) => (.bool r0) = v ∧ H' = []
theorem f_ask_Same_ok (a0 : T_api_Request) (a1 : T_api_Request) (M : IM) (v0_10 v1_10 : Value) (h0_10 : RS (Kd.int .i64) M v0_10 a0.Ids) (h1_10 : RS (Kd.int .i64) M v1_10 a1.Ids) (res : Bool) (h : f_ask_Same a0 a1 = some res) :
    Tri Tryz.prog 13 #[(a28_ a0 v0_10), (a28_ a1 v1_10)] M [] (f_ask_Same_post a0 a1 v0_10 v1_10 res) := by
 unfold f_ask_Same at h
 refine Tri.enter (fn := Tryz.f13) Tryz.func13 rfl (Nat.le_of_ble_eq_true rfl) ?_
 intro F ρ hρ
 refine Sr ?_
 refine WL.eff (EO.box (cs := (l28 a0 v0_10).toArray) (congrArg Value.cells (asE (a28_ a0 v0_10) (hρ 0)))) rfl ?_
 rintro _ _ _ - ⟨rfl, g21, rfl, rfl⟩
 refine WL.eff (EO.box (cs := (l28 a1 v1_10).toArray) (congrArg Value.cells (asE (a28_ a1 v1_10) (hρ 1)))) rfl ?_
 rintro _ _ _ - ⟨rfl, g22, rfl, rfl⟩
 refine Pa (.bool false) rfl rfl ?_
 refine Ns ?_
 refine Pa (.func (.func 49) #[] #[]) rfl rfl ?_
 refine Ns ?_
 refine Pa (.func (.func 50) #[] #[]) rfl rfl ?_
 refine Nt ?_
 obtain ⟨x23, hj24, h⟩ := bnd h
 refine WC.joinF (fun (x23 : Bool) ρ' M' H' => M.le M' ∧ [(g22, .cells (l28 a1 v1_10).toArray 28 (0, 0))] :: [(g21, .cells (l28 a0 v0_10).toArray 28 (0, 0))] :: F = H' ∧ ρ' 4 = (.bool x23)) x23 ?_ ?_
 have h324 := h
 have h := hj24
 refine WC.draw [0, 0, 3, 0, 0, 31, 63, 127, 255, 255, 1023, 255, 255, 8191, 16383, 32767, 65535, 131071, 262143, 131071, 655359, 2097151, 4194303, 8388607, 16777215, 33554431, 16777215, 83886079, 268435455, 536870911, 1073741823, 2147483647, 4294967295, 2147483647, 10737418239, 34359738367, 68719476735, 137438953471] (.pure 0 (.pure 1 (.pure 3 (.pure 4 (.alt 2 (.alt 5 (.pure 6 (.pure 7 (.pure 8 (.pure 9 (.pure 11 (.pure 12 (.alt 10 (.alt 13 (.pure 14 (.pure 15 (.pure 16 (.pure 17 (.pure 18 (.pure 19 (.pure 20 (.pure 21 (.pure 22 (.pure 23 (.pure 24 (.pure 25 (.pure 26 (.pure 27 (.pure 28 (.pure 29 (.pure 30 (.pure 31 (.pure 32 (.pure 33 (.pure 34 (.alt 35 (.pure 36 (.pure 37 .done)) .none)))))))))))))))))))))) .none) .none))))))) .none) .none))))) mixed (by kernel_rfl) ?_
 refine Tp (.func (.func 49) #[] #[]) rfl (PO.move rfl) rfl ?_
 refine Tp (a28_ a0 v0_10) rfl (PO.loadBA (cs := (l28 a0 v0_10)) 1 ag28 sz28 rfl rfl rfl) rfl ?_
 refine Tp (.func (.func 49) #[] #[]) rfl (PO.move rfl) rfl ?_
 refine Tp (a28_ a1 v1_10) rfl (PO.loadBA (cs := (l28 a1 v1_10)) 0 ag28 sz28 rfl rfl rfl) rfl ?_
 obtain ⟨r25, hr26, h⟩ := bnd h
 refine WT.alt rfl (EO.callV0 (first := #[]) (cap := #[]) co49 rfl (f_ask_Same_1_ok a0 _ _ h0_10 r25 hr26) (argsV1 rfl rfl)) rfl ?_ ?_
 rintro _ M27 _ hle28 ⟨_, ⟨rfl, rfl⟩, rfl⟩
 have h0_10 := h0_10.mono hle28
 have h1_10 := h1_10.mono hle28
 refine ⟨(StabL.st (StabA.of rfl (PO.loadBA (cs := (l28 a1 v1_10)) 0 ag28 sz28 rfl rfl rfl) rfl) (StabL.st (StabA.of rfl (PO.move rfl) rfl) (StabL.anc rfl (StabL.anc rfl trivial)))), ?_⟩
 refine WT.a0 ?_
 obtain ⟨r30, hr31, h⟩ := bnd h
 refine WT.alt rfl (EO.callV0 (first := #[]) (cap := #[]) co49 rfl (f_ask_Same_1_ok a1 _ _ h1_10 r30 hr31) (argsV1 rfl rfl)) rfl ?_ ?_
 rintro _ M32 _ hle33 ⟨_, ⟨rfl, rfl⟩, rfl⟩
 have h0_10 := h0_10.mono hle33
 have h1_10 := h1_10.mono hle33
 refine ⟨(StabL.anc rfl (StabL.anc rfl (StabL.anc rfl (StabL.anc rfl trivial)))), ?_⟩
 refine WT.a0 ?_
 refine Tp (.bool (andL [decide ((rd r25 (0 : Int)) = (rd r30 (0 : Int))), decide ((rd r25 (1 : Int)) = (rd r30 (1 : Int))), decide ((rd r25 (2 : Int)) = (rd r30 (2 : Int))), decide ((rd r25 (3 : Int)) = (rd r30 (3 : Int))), decide ((rd r25 (4 : Int)) = (rd r30 (4 : Int))), decide ((rd r25 (5 : Int)) = (rd r30 (5 : Int))), decide ((rd r25 (6 : Int)) = (rd r30 (6 : Int))), decide ((rd r25 (7 : Int)) = (rd r30 (7 : Int)))])) rfl (PO.eqAgg eg87 rfl rfl (run_equal_array Tryz.underlying87 pl3 sz3 (EqIs.cons rfl rfl (EqC.int Tryz.underlying3) (EqIs.cons rfl rfl (EqC.int Tryz.underlying3) (EqIs.cons rfl rfl (EqC.int Tryz.underlying3) (EqIs.cons rfl rfl (EqC.int Tryz.underlying3) (EqIs.cons rfl rfl (EqC.int Tryz.underlying3) (EqIs.cons rfl rfl (EqC.int Tryz.underlying3) (EqIs.cons rfl rfl (EqC.int Tryz.underlying3) (EqIs.cons rfl rfl (EqC.int Tryz.underlying3) EqIs.nil)))))))))) rfl ?_
 refine Tp (.bool (andL [decide ((rd r25 (0 : Int)) = (rd r30 (0 : Int))), decide ((rd r25 (1 : Int)) = (rd r30 (1 : Int))), decide ((rd r25 (2 : Int)) = (rd r30 (2 : Int))), decide ((rd r25 (3 : Int)) = (rd r30 (3 : Int))), decide ((rd r25 (4 : Int)) = (rd r30 (4 : Int))), decide ((rd r25 (5 : Int)) = (rd r30 (5 : Int))), decide ((rd r25 (6 : Int)) = (rd r30 (6 : Int))), decide ((rd r25 (7 : Int)) = (rd r30 (7 : Int)))])) rfl (PO.move rfl) rfl ?_
 rcases Bool.eq_false_or_eq_true (andL [decide ((rd r25 (0 : Int)) = (rd r30 (0 : Int))), decide ((rd r25 (1 : Int)) = (rd r30 (1 : Int))), decide ((rd r25 (2 : Int)) = (rd r30 (2 : Int))), decide ((rd r25 (3 : Int)) = (rd r30 (3 : Int))), decide ((rd r25 (4 : Int)) = (rd r30 (4 : Int))), decide ((rd r25 (5 : Int)) = (rd r30 (5 : Int))), decide ((rd r25 (6 : Int)) = (rd r30 (6 : Int))), decide ((rd r25 (7 : Int)) = (rd r30 (7 : Int)))]) with hb35 | hb35
 have h := ite_t hb35 h
 refine Tn (.func (.func 50) #[] #[]) 14 rfl rfl rfl hb35 (PO.move rfl) rfl ?_
 refine Tn (a28_ a0 v0_10) 14 rfl rfl rfl hb35 (PO.loadBA (cs := (l28 a0 v0_10)) 1 ag28 sz28 rfl rfl rfl) rfl ?_
 refine Tn (.func (.func 50) #[] #[]) 14 rfl rfl rfl hb35 (PO.move rfl) rfl ?_
 refine Tn (a28_ a1 v1_10) 14 rfl rfl rfl hb35 (PO.loadBA (cs := (l28 a1 v1_10)) 0 ag28 sz28 rfl rfl rfl) rfl ?_
 obtain ⟨r36, hr37, h⟩ := bnd h
 refine WT.altOn 14 rfl rfl rfl hb35 (EO.callV0 (first := #[]) (cap := #[]) co50 rfl (f_ask_Same_2_ok a0 _ _ h0_10 r36 hr37) (argsV1 rfl rfl)) rfl ?_ ?_
 rintro _ M38 _ hle39 ⟨_, ⟨rfl, rfl⟩, rfl⟩
 have h0_10 := h0_10.mono hle39
 have h1_10 := h1_10.mono hle39
 refine ⟨(StabL.st (StabA.on 14 rfl rfl rfl hb35 (PO.loadBA (cs := (l28 a1 v1_10)) 0 ag28 sz28 rfl rfl rfl) rfl) (StabL.st (StabA.on 14 rfl rfl rfl hb35 (PO.move rfl) rfl) (StabL.anc rfl (StabL.anc rfl (StabL.anc rfl (StabL.anc rfl (StabL.anc rfl (StabL.anc rfl (StabL.anc rfl (StabL.anc rfl trivial)))))))))), ?_⟩
 refine WT.a0 ?_
 obtain ⟨r41, hr42, h⟩ := bnd h
 refine WT.altOn 14 rfl rfl rfl hb35 (EO.callV0 (first := #[]) (cap := #[]) co50 rfl (f_ask_Same_2_ok a1 _ _ h1_10 r41 hr42) (argsV1 rfl rfl)) rfl ?_ ?_
 rintro _ M43 _ hle44 ⟨_, ⟨rfl, rfl⟩, rfl⟩
 have h0_10 := h0_10.mono hle44
 have h1_10 := h1_10.mono hle44
 refine ⟨(StabL.anc rfl (StabL.anc rfl (StabL.anc rfl (StabL.anc rfl (StabL.anc rfl (StabL.anc rfl (StabL.anc rfl (StabL.anc rfl (StabL.anc rfl (StabL.anc rfl trivial)))))))))), ?_⟩
 refine WT.a0 ?_
 refine Tn (.bool (andL [(rd r36 (0 : Int)) == (rd r41 (0 : Int)), (rd r36 (1 : Int)) == (rd r41 (1 : Int)), (rd r36 (2 : Int)) == (rd r41 (2 : Int)), (rd r36 (3 : Int)) == (rd r41 (3 : Int))])) 14 rfl rfl rfl hb35 (PO.eqAgg eg89 rfl rfl (run_equal_array Tryz.underlying89 pl9 sz9 (EqIs.cons rfl rfl (EqC.str Tryz.underlying9) (EqIs.cons rfl rfl (EqC.str Tryz.underlying9) (EqIs.cons rfl rfl (EqC.str Tryz.underlying9) (EqIs.cons rfl rfl (EqC.str Tryz.underlying9) EqIs.nil)))))) rfl ?_
 refine Tp (.bool (andL [(rd r36 (0 : Int)) == (rd r41 (0 : Int)), (rd r36 (1 : Int)) == (rd r41 (1 : Int)), (rd r36 (2 : Int)) == (rd r41 (2 : Int)), (rd r36 (3 : Int)) == (rd r41 (3 : Int))])) rfl (PO.pickT rfl hb35 rfl) rfl ?_
 refine Tp (.bool (andL [(rd r36 (0 : Int)) == (rd r41 (0 : Int)), (rd r36 (1 : Int)) == (rd r41 (1 : Int)), (rd r36 (2 : Int)) == (rd r41 (2 : Int)), (rd r36 (3 : Int)) == (rd r41 (3 : Int))])) rfl (PO.move rfl) rfl ?_
 rcases Bool.eq_false_or_eq_true (andL [(rd r36 (0 : Int)) == (rd r41 (0 : Int)), (rd r36 (1 : Int)) == (rd r41 (1 : Int)), (rd r36 (2 : Int)) == (rd r41 (2 : Int)), (rd r36 (3 : Int)) == (rd r41 (3 : Int))]) with hb46 | hb46
 have h := ite_t hb46 h
 refine Tn (pt g21 6) 23 rfl rfl rfl hb46 (PO.fieldAddr fo28_6 rfl rfl) rfl ?_
 refine Tn (.bool a0.Flag) 23 rfl rfl rfl hb46 (PO.loadB 1 pl4 rfl rfl rfl) rfl ?_
 refine Tn (pt g22 6) 23 rfl rfl rfl hb46 (PO.fieldAddr fo28_6 rfl rfl) rfl ?_
 refine Tn (.bool a1.Flag) 23 rfl rfl rfl hb46 (PO.loadB 0 pl4 rfl rfl rfl) rfl ?_
 refine Tn (.bool (a0.Flag == a1.Flag)) 23 rfl rfl rfl hb46 (PO.beql Tryz.underlying4 rfl rfl) rfl ?_
 refine Tp (.bool (a0.Flag == a1.Flag)) rfl (PO.pickT rfl hb46 rfl) rfl ?_
 refine Tp (.bool (a0.Flag == a1.Flag)) rfl (PO.move rfl) rfl ?_
 rcases Bool.eq_false_or_eq_true (a0.Flag == a1.Flag) with hb47 | hb47
 have h := ite_t hb47 h
 refine Tn (pt g21 14) 30 rfl rfl rfl hb47 (PO.fieldAddr fo28_14 rfl rfl) rfl ?_
 refine Tn (a26_ a0.Word) 30 rfl rfl rfl hb47 (PO.loadBA (cs := (l26 a0.Word)) 1 ag26 sz26 rfl rfl rfl) rfl ?_
 refine Tn (pt g22 14) 30 rfl rfl rfl hb47 (PO.fieldAddr fo28_14 rfl rfl) rfl ?_
 refine Tn (a26_ a1.Word) 30 rfl rfl rfl hb47 (PO.loadBA (cs := (l26 a1.Word)) 0 ag26 sz26 rfl rfl rfl) rfl ?_
 refine Tn (.bool (andL [decide (a0.Word.Broker = a1.Word.Broker), decide (a0.Word.Epoch = a1.Word.Epoch), decide (a0.Word.High = a1.Word.High), a0.Word.Fence == a1.Word.Fence, a0.Word.Leave == a1.Word.Leave])) 30 rfl rfl rfl hb47 (PO.eqAgg eg26 rfl rfl (run_equal_struct Tryz.underlying26 eq26 (EqFs.cons (by decide) pl3 rfl rfl (EqC.int Tryz.underlying3) (EqFs.cons (by decide) pl3 rfl rfl (EqC.int Tryz.underlying3) (EqFs.cons (by decide) pl3 rfl rfl (EqC.int Tryz.underlying3) (EqFs.cons (by decide) pl4 rfl rfl (EqC.bool Tryz.underlying4) (EqFs.cons (by decide) pl4 rfl rfl (EqC.bool Tryz.underlying4) EqFs.nil))))))) rfl ?_
 refine Tp (.bool (andL [decide (a0.Word.Broker = a1.Word.Broker), decide (a0.Word.Epoch = a1.Word.Epoch), decide (a0.Word.High = a1.Word.High), a0.Word.Fence == a1.Word.Fence, a0.Word.Leave == a1.Word.Leave])) rfl (PO.pickT rfl hb47 rfl) rfl ?_
 refine Tp (.bool (andL [decide (a0.Word.Broker = a1.Word.Broker), decide (a0.Word.Epoch = a1.Word.Epoch), decide (a0.Word.High = a1.Word.High), a0.Word.Fence == a1.Word.Fence, a0.Word.Leave == a1.Word.Leave])) rfl (PO.move rfl) rfl ?_
 rcases Bool.eq_false_or_eq_true (andL [decide (a0.Word.Broker = a1.Word.Broker), decide (a0.Word.Epoch = a1.Word.Epoch), decide (a0.Word.High = a1.Word.High), a0.Word.Fence == a1.Word.Fence, a0.Word.Leave == a1.Word.Leave]) with hb48 | hb48
 have h := ite_t hb48 h
 refine Tn (pt g21 10) 37 rfl rfl rfl hb48 (PO.fieldAddr fo28_10 rfl rfl) rfl ?_
 refine Tn v0_10 37 rfl rfl rfl hb48 (PO.loadB 1 pl24 rfl rfl rfl) rfl ?_
 refine Tn (pt g22 10) 37 rfl rfl rfl hb48 (PO.fieldAddr fo28_10 rfl rfl) rfl ?_
 refine Tn v1_10 37 rfl rfl rfl hb48 (PO.loadB 0 pl24 rfl rfl rfl) rfl ?_
 obtain ⟨r49, hr50, h⟩ := bnd h
 refine WT.altOn 37 rfl rfl rfl hb48 (EO.call0 co51 (f_slices_Equal_int_int_ok a0.Ids a1.Ids _ _ _ h0_10 h1_10 r49 hr50) (args2 rfl rfl)) rfl ?_ ?_
 rintro _ M51 _ hle52 ⟨_, ⟨rfl, rfl⟩, rfl⟩
 have h0_10 := h0_10.mono hle52
 have h1_10 := h1_10.mono hle52
 refine ⟨(StabL.anc rfl (StabL.anc rfl (StabL.anc rfl (StabL.anc rfl (StabL.anc rfl (StabL.anc rfl (StabL.anc rfl (StabL.anc rfl (StabL.anc rfl (StabL.anc rfl (StabL.anc rfl (StabL.anc rfl (StabL.anc rfl (StabL.anc rfl (StabL.anc rfl (StabL.anc rfl (StabL.anc rfl (StabL.anc rfl (StabL.anc rfl (StabL.anc rfl (StabL.anc rfl (StabL.anc rfl (StabL.anc rfl (StabL.anc rfl (StabL.anc rfl (StabL.anc rfl (StabL.anc rfl (StabL.anc rfl (StabL.anc rfl (StabL.anc rfl (StabL.anc rfl trivial))))))))))))))))))))))))))))))), ?_⟩
 refine WT.a0 ?_
 refine Tp (.bool r49) rfl (PO.pickT rfl hb48 rfl) rfl ?_
 refine Tp (.bool r49) rfl (PO.assign rfl) rfl ?_
 refine WT.fin ?_
 obtain rfl := Option.some.inj h
 refine WQ.thenJ ?_
 exact ⟨((((hle28.trans hle33).trans hle39).trans hle44).trans hle52), rfl, rfl⟩
 exact WT.no
 have h := ite_f hb48 h
 refine WT.pureOff 37 rfl rfl rfl hb48 rfl ?_
 refine WT.pureOff 37 rfl rfl rfl hb48 rfl ?_
 refine WT.pureOff 37 rfl rfl rfl hb48 rfl ?_
 refine WT.pureOff 37 rfl rfl rfl hb48 rfl ?_
 refine WT.altOff 37 rfl rfl rfl hb48 rfl ⟨(StabL.anc rfl (StabL.anc rfl (StabL.anc rfl (StabL.anc rfl (StabL.anc rfl (StabL.anc rfl (StabL.anc rfl (StabL.anc rfl (StabL.anc rfl (StabL.anc rfl (StabL.anc rfl (StabL.anc rfl (StabL.anc rfl (StabL.anc rfl (StabL.anc rfl (StabL.anc rfl (StabL.anc rfl (StabL.anc rfl (StabL.anc rfl (StabL.anc rfl (StabL.anc rfl (StabL.anc rfl (StabL.anc rfl (StabL.anc rfl (StabL.anc rfl (StabL.anc rfl (StabL.anc rfl (StabL.anc rfl (StabL.anc rfl (StabL.anc rfl (StabL.anc rfl trivial))))))))))))))))))))))))))))))), ?_⟩ ?_
 refine Tp (.bool false) rfl (PO.pickF rfl hb48 rfl) rfl ?_
 refine Tp (.bool false) rfl (PO.assign rfl) rfl ?_
 refine WT.fin ?_
 obtain rfl := Option.some.inj h
 refine WQ.thenJ ?_
 exact ⟨(((hle28.trans hle33).trans hle39).trans hle44), rfl, rfl⟩
 exact WT.no
 have h := ite_f hb47 h
 refine WT.pureOff 30 rfl rfl rfl hb47 rfl ?_
 refine WT.pureOff 30 rfl rfl rfl hb47 rfl ?_
 refine WT.pureOff 30 rfl rfl rfl hb47 rfl ?_
 refine WT.pureOff 30 rfl rfl rfl hb47 rfl ?_
 refine WT.pureOff 30 rfl rfl rfl hb47 rfl ?_
 refine Tp (.bool false) rfl (PO.pickF rfl hb47 rfl) rfl ?_
 refine Tp (.bool false) rfl (PO.move rfl) rfl ?_
 refine WT.pureOff 37 rfl rfl rfl rfl rfl ?_
 refine WT.pureOff 37 rfl rfl rfl rfl rfl ?_
 refine WT.pureOff 37 rfl rfl rfl rfl rfl ?_
 refine WT.pureOff 37 rfl rfl rfl rfl rfl ?_
 refine WT.altOff 37 rfl rfl rfl rfl rfl ⟨(StabL.anc rfl (StabL.anc rfl (StabL.anc rfl (StabL.anc rfl (StabL.anc rfl (StabL.anc rfl (StabL.anc rfl (StabL.anc rfl (StabL.anc rfl (StabL.anc rfl (StabL.anc rfl (StabL.anc rfl (StabL.anc rfl (StabL.anc rfl (StabL.anc rfl (StabL.anc rfl (StabL.anc rfl (StabL.anc rfl (StabL.anc rfl (StabL.anc rfl (StabL.anc rfl (StabL.anc rfl (StabL.anc rfl (StabL.anc rfl (StabL.anc rfl (StabL.anc rfl (StabL.anc rfl (StabL.anc rfl (StabL.anc rfl (StabL.anc rfl (StabL.anc rfl trivial))))))))))))))))))))))))))))))), ?_⟩ ?_
 refine Tp (.bool false) rfl (PO.pickF rfl rfl rfl) rfl ?_
 refine Tp (.bool false) rfl (PO.assign rfl) rfl ?_
 refine WT.fin ?_
 obtain rfl := Option.some.inj h
 refine WQ.thenJ ?_
 exact ⟨(((hle28.trans hle33).trans hle39).trans hle44), rfl, rfl⟩
 exact WT.no
 have h := ite_f hb46 h
 refine WT.pureOff 23 rfl rfl rfl hb46 rfl ?_
 refine WT.pureOff 23 rfl rfl rfl hb46 rfl ?_
 refine WT.pureOff 23 rfl rfl rfl hb46 rfl ?_
 refine WT.pureOff 23 rfl rfl rfl hb46 rfl ?_
 refine WT.pureOff 23 rfl rfl rfl hb46 rfl ?_
 refine Tp (.bool false) rfl (PO.pickF rfl hb46 rfl) rfl ?_
 refine Tp (.bool false) rfl (PO.move rfl) rfl ?_
 refine WT.pureOff 30 rfl rfl rfl rfl rfl ?_
 refine WT.pureOff 30 rfl rfl rfl rfl rfl ?_
 refine WT.pureOff 30 rfl rfl rfl rfl rfl ?_
 refine WT.pureOff 30 rfl rfl rfl rfl rfl ?_
 refine WT.pureOff 30 rfl rfl rfl rfl rfl ?_
 refine Tp (.bool false) rfl (PO.pickF rfl rfl rfl) rfl ?_
 refine Tp (.bool false) rfl (PO.move rfl) rfl ?_
 refine WT.pureOff 37 rfl rfl rfl rfl rfl ?_
 refine WT.pureOff 37 rfl rfl rfl rfl rfl ?_
 refine WT.pureOff 37 rfl rfl rfl rfl rfl ?_
 refine WT.pureOff 37 rfl rfl rfl rfl rfl ?_
 refine WT.altOff 37 rfl rfl rfl rfl rfl ⟨(StabL.anc rfl (StabL.anc rfl (StabL.anc rfl (StabL.anc rfl (StabL.anc rfl (StabL.anc rfl (StabL.anc rfl (StabL.anc rfl (StabL.anc rfl (StabL.anc rfl (StabL.anc rfl (StabL.anc rfl (StabL.anc rfl (StabL.anc rfl (StabL.anc rfl (StabL.anc rfl (StabL.anc rfl (StabL.anc rfl (StabL.anc rfl (StabL.anc rfl (StabL.anc rfl (StabL.anc rfl (StabL.anc rfl (StabL.anc rfl (StabL.anc rfl (StabL.anc rfl (StabL.anc rfl (StabL.anc rfl (StabL.anc rfl (StabL.anc rfl (StabL.anc rfl trivial))))))))))))))))))))))))))))))), ?_⟩ ?_
 refine Tp (.bool false) rfl (PO.pickF rfl rfl rfl) rfl ?_
 refine Tp (.bool false) rfl (PO.assign rfl) rfl ?_
 refine WT.fin ?_
 obtain rfl := Option.some.inj h
 refine WQ.thenJ ?_
 exact ⟨(((hle28.trans hle33).trans hle39).trans hle44), rfl, rfl⟩
 exact WT.no
 exact WT.no
 exact WT.no
 have h := ite_f hb35 h
 refine WT.pureOff 14 rfl rfl rfl hb35 rfl ?_
 refine WT.pureOff 14 rfl rfl rfl hb35 rfl ?_
 refine WT.pureOff 14 rfl rfl rfl hb35 rfl ?_
 refine WT.pureOff 14 rfl rfl rfl hb35 rfl ?_
 refine WT.altOff 14 rfl rfl rfl hb35 rfl ⟨(StabL.st (StabA.off 14 rfl rfl rfl hb35 rfl) (StabL.st (StabA.off 14 rfl rfl rfl hb35 rfl) (StabL.anc rfl (StabL.anc rfl (StabL.anc rfl (StabL.anc rfl (StabL.anc rfl (StabL.anc rfl (StabL.anc rfl (StabL.anc rfl trivial)))))))))), ?_⟩ ?_
 refine WT.altOff 14 rfl rfl rfl hb35 rfl ⟨(StabL.anc rfl (StabL.anc rfl (StabL.anc rfl (StabL.anc rfl (StabL.anc rfl (StabL.anc rfl (StabL.anc rfl (StabL.anc rfl (StabL.anc rfl (StabL.anc rfl trivial)))))))))), ?_⟩ ?_
 refine WT.pureOff 14 rfl rfl rfl hb35 rfl ?_
 refine Tp (.bool false) rfl (PO.pickF rfl hb35 rfl) rfl ?_
 refine Tp (.bool false) rfl (PO.move rfl) rfl ?_
 refine WT.pureOff 23 rfl rfl rfl rfl rfl ?_
 refine WT.pureOff 23 rfl rfl rfl rfl rfl ?_
 refine WT.pureOff 23 rfl rfl rfl rfl rfl ?_
 refine WT.pureOff 23 rfl rfl rfl rfl rfl ?_
 refine WT.pureOff 23 rfl rfl rfl rfl rfl ?_
 refine Tp (.bool false) rfl (PO.pickF rfl rfl rfl) rfl ?_
 refine Tp (.bool false) rfl (PO.move rfl) rfl ?_
 refine WT.pureOff 30 rfl rfl rfl rfl rfl ?_
 refine WT.pureOff 30 rfl rfl rfl rfl rfl ?_
 refine WT.pureOff 30 rfl rfl rfl rfl rfl ?_
 refine WT.pureOff 30 rfl rfl rfl rfl rfl ?_
 refine WT.pureOff 30 rfl rfl rfl rfl rfl ?_
 refine Tp (.bool false) rfl (PO.pickF rfl rfl rfl) rfl ?_
 refine Tp (.bool false) rfl (PO.move rfl) rfl ?_
 refine WT.pureOff 37 rfl rfl rfl rfl rfl ?_
 refine WT.pureOff 37 rfl rfl rfl rfl rfl ?_
 refine WT.pureOff 37 rfl rfl rfl rfl rfl ?_
 refine WT.pureOff 37 rfl rfl rfl rfl rfl ?_
 refine WT.altOff 37 rfl rfl rfl rfl rfl ⟨(StabL.anc rfl (StabL.anc rfl (StabL.anc rfl (StabL.anc rfl (StabL.anc rfl (StabL.anc rfl (StabL.anc rfl (StabL.anc rfl (StabL.anc rfl (StabL.anc rfl (StabL.anc rfl (StabL.anc rfl (StabL.anc rfl (StabL.anc rfl (StabL.anc rfl (StabL.anc rfl (StabL.anc rfl (StabL.anc rfl (StabL.anc rfl (StabL.anc rfl (StabL.anc rfl (StabL.anc rfl (StabL.anc rfl (StabL.anc rfl (StabL.anc rfl (StabL.anc rfl (StabL.anc rfl (StabL.anc rfl (StabL.anc rfl (StabL.anc rfl (StabL.anc rfl trivial))))))))))))))))))))))))))))))), ?_⟩ ?_
 refine Tp (.bool false) rfl (PO.pickF rfl rfl rfl) rfl ?_
 refine Tp (.bool false) rfl (PO.assign rfl) rfl ?_
 refine WT.fin ?_
 obtain rfl := Option.some.inj h
 refine WQ.thenJ ?_
 exact ⟨(hle28.trans hle33), rfl, rfl⟩
 exact WT.no
 exact WT.no
 exact WT.no
 exact WT.no
 exact WT.no
 rintro ρ24 M24 H24 ⟨hle24, rfl, hs24_4⟩
 have h1_10 := h1_10.mono hle24
 have h0_10 := h0_10.mono hle24
 refine WC.ret ?_
 refine WQ.drop ?_
 refine WQ.drop ?_
 exact WQ.returnsF h [] rfl (results1 rfl hs24_4) hle24 ⟨rfl, rfl⟩

noncomputable def f_api_Fault_Unwrap (a0 : T_api_Fault) : Option GErr :=
  (some a0.Err)
def f_api_Fault_Unwrap_post (a0 : T_api_Fault) : GErr → Value → IM → HL → Prop :=
  fun (r0 : GErr) (v : Value) (M' : IM) (H' : HL) => (GV r0) = v ∧ H' = []
theorem f_api_Fault_Unwrap_ok (a0 : T_api_Fault) (M : IM) (res : GErr) (h : f_api_Fault_Unwrap a0 = some res) :
    Tri Tryz.prog 108 #[(a98_ a0)] M [] (f_api_Fault_Unwrap_post a0 res) := by
 unfold f_api_Fault_Unwrap at h
 refine Tri.enter (fn := Tryz.f108) Tryz.func108 rfl (Nat.le_of_ble_eq_true rfl) ?_
 intro F ρ hρ
 refine Sr ?_
 refine WL.eff (EO.box (cs := (l98 a0).toArray) (congrArg Value.cells (asE (a98_ a0) (hρ 0)))) rfl ?_
 rintro _ _ _ - ⟨rfl, g21, rfl, rfl⟩
 refine Pa (GV GErr.nil) rfl rfl ?_
 refine Ns ?_
 refine Pu (pt g21 2) (PO.fieldAddr fo98_2 rfl rfl) rfl ?_
 refine Pu (GV a0.Err) (PO.loadB 0 pl30 rfl rfl rfl) rfl ?_
 refine Pa (GV a0.Err) rfl rfl ?_
 refine Nt ?_
 refine WC.ret ?_
 refine WQ.drop ?_
 exact WQ.returnsF h [] rfl (results1 rfl rfl) (IM.le.refl _) ⟨rfl, rfl⟩

noncomputable def f_errors_is_l0 (a1 : Int) (s_ : GErr) : Option (GErr ⊕ Bool) :=
  match s_ with
  | x22 =>
    (match x22 with | .nil => (some (Sum.inr false)) | .code n24 => (if (decide (n24 = a1)) = true then (some (Sum.inr true)) else (some (Sum.inr false))) | .fault o25 a26 e27 => ((f_api_Fault_Unwrap (⟨o25, a26, e27⟩ : T_api_Fault)).bind fun (r30 : GErr) => (if r30.isNil = true then (some (Sum.inr false)) else (some (Sum.inl r30)))) | .other b28 => (some (Sum.inr false)))
noncomputable def f_errors_is (a0 : GErr) (a1 : Int) : Option Bool :=
  ((iter (f_errors_is_l0 a1) a0).bind (fun (x23 : Bool) => (some x23)))
def f_errors_is_post (a0 : GErr) (a1 : Int) : Bool → Value → IM → HL → Prop :=
  fun (r0 : Bool) (v : Value) (M' : IM) (H' : HL) => (.bool r0) = v ∧ H' = []
theorem f_errors_is_ok (a0 : GErr) (a1 : Int) (M : IM) (res : Bool) (h : f_errors_is a0 a1 = some res) :
    Tri Tryz.prog 72 #[(GV a0), (GV (GErr.code a1)), (.bool true)] M [] (f_errors_is_post a0 a1 res) := by
 unfold f_errors_is at h
 refine Tri.enter (fn := Tryz.f72) Tryz.func72 rfl (Nat.le_of_ble_eq_true rfl) ?_
 intro F ρ hρ
 refine Sr ?_
 refine Pa (.bool false) rfl rfl ?_
 refine Nt ?_
 refine WC.block ?_
 obtain ⟨e21, he21, hK21⟩ := bnd h
 clear h
 refine WC.loop he21 (fun (x22 : GErr) ρ' M' H' => M.le M' ∧ F = H' ∧ ρ' 0 = (GV x22) ∧ ρ' 1 = (GV (GErr.code a1)) ∧ ρ' 2 = (.bool true)) ?_ ?_
 exact ⟨(IM.le.refl _), rfl, (hρ 0), (hρ 1), (hρ 2)⟩
 rintro x22 o21 ρ21 M21 H21 h ⟨hle21, rfl, hs21_0, hs21_1, hs21_2⟩
 unfold f_errors_is_l0 at h
 refine WC.block ?_
 refine WC.seq ?_
 refine Sr ?_
 refine Pm (.bool true) hs21_2 rfl ?_
 refine Pm (.bool true) rfl rfl ?_
 refine On 15 rfl rfl rfl ?_
 refine Pm (GV x22) hs21_0 rfl ?_
 refine On 15 rfl rfl rfl ?_
 refine Pm (GV (GErr.code a1)) hs21_1 rfl ?_
 refine On 15 rfl rfl rfl ?_
 rcases x22 with _ | n24 | ⟨o25, a26, e27⟩ | b28
 refine Pu (.bool false) (PO.nilIfaceNe Tryz.underlying30 (show ev _ _ = .nilIface from rfl) (show ev _ _ = (.iface 35 (.int .i64 a1)) from rfl)) rfl ?_
 refine Pu (.bool false) (PO.pickT rfl rfl rfl) rfl ?_
 refine Nt ?_
 refine WC.condF (b := false) rfl rfl ?_
 refine WC.skip ?_
 refine WQ.thenC ?_
 refine WC.seq ?_
 refine Sr ?_
 refine Pm (GV GErr.nil) hs21_0 rfl ?_
 refine Pu (.tuple #[.nilIface, (.bool false)]) (PO.asserts (show ev _ _ = .nilIface from rfl) (run_assert_nil zo145 Tryz.underlying145)) rfl ?_
 refine Pm (.tuple #[.nilIface, (.bool false)]) rfl rfl ?_
 refine Pu .nilIface (PO.extract rfl rfl) rfl ?_
 refine Pu (.bool false) (PO.extract rfl rfl) rfl ?_
 refine Pa .nilIface rfl rfl ?_
 refine Pa (.bool false) rfl rfl ?_
 refine Ns ?_
 refine Pm (.bool false) rfl rfl ?_
 refine Pm (.bool false) rfl rfl ?_
 iterate 3 refine Of 26 rfl rfl rfl rfl ?_
 refine Pu (.bool false) (PO.pickF rfl rfl rfl) rfl ?_
 refine Nt ?_
 refine WC.condF (b := false) rfl rfl ?_
 refine WC.skip ?_
 refine WQ.thenC ?_
 refine Sr ?_
 refine Pm (GV GErr.nil) hs21_0 rfl ?_
 refine Nt ?_
 refine WC.block ?_
 refine Sr ?_
 refine Pu (.tuple #[.nilIface, (.bool false)]) (PO.asserts (show ev _ _ = .nilIface from rfl) (run_assert_nil zo148 Tryz.underlying148)) rfl ?_
 refine Pu (.bool false) (PO.extract rfl rfl) rfl ?_
 refine Pu .nilIface (PO.extract rfl rfl) rfl ?_
 refine Nt ?_
 refine WC.condF (b := false) rfl rfl ?_
 refine Sr ?_
 refine Pu (.tuple #[.nilIface, (.bool false)]) (PO.asserts (show ev _ _ = .nilIface from rfl) (run_assert_nil zo149 Tryz.underlying149)) rfl ?_
 refine Pu (.bool false) (PO.extract rfl rfl) rfl ?_
 refine Pu .nilIface (PO.extract rfl rfl) rfl ?_
 refine Nt ?_
 refine WC.condF (b := false) rfl rfl ?_
 refine Sr ?_
 refine Pa (GV GErr.nil) rfl rfl ?_
 refine Ns ?_
 refine Pa (.bool false) rfl rfl ?_
 refine Nt ?_
 refine WC.ret ?_
 refine WQ.blockR ?_
 refine WQ.blockR ?_
 refine WQ.leaveR false (Option.some.inj h).symm (fun heq21 => ?_)
 subst heq21
 have h := hK21
 refine WQ.blockR ?_
 exact WQ.returnsF h [] rfl (results1 rfl rfl) hle21 ⟨rfl, rfl⟩
 refine Pu (.bool (decide (n24 = a1))) (PO.ifaceInt Tryz.underlying30 Tryz.underlying35 cm35 (show ev _ _ = (.iface 35 (.int .i64 n24)) from rfl) (show ev _ _ = (.iface 35 (.int .i64 a1)) from rfl)) rfl ?_
 refine Pu (.bool (decide (n24 = a1))) (PO.pickT rfl rfl rfl) rfl ?_
 refine Nt ?_
 refine WC.cond (b := decide (n24 = a1)) rfl (fun hb29 => ?_) (fun hb29 => ?_)
 have h := ite_t hb29 h
 refine Sr ?_
 refine Pa (.bool true) rfl rfl ?_
 refine Nt ?_
 refine WC.ret ?_
 refine WQ.thenR ?_
 refine WQ.blockR ?_
 refine WQ.leaveR true (Option.some.inj h).symm (fun heq21 => ?_)
 subst heq21
 have h := hK21
 refine WQ.blockR ?_
 exact WQ.returnsF h [] rfl (results1 rfl rfl) hle21 ⟨rfl, rfl⟩
 have h := ite_f hb29 h
 refine WC.skip ?_
 refine WQ.thenC ?_
 refine WC.seq ?_
 refine Sr ?_
 refine Pm (GV (GErr.code n24)) hs21_0 rfl ?_
 refine Pu (.tuple #[.nilIface, (.bool false)]) (PO.asserts (show ev _ _ = (.iface 35 (.int .i64 n24)) from rfl) (la35_145 _ _)) rfl ?_
 refine Pm (.tuple #[.nilIface, (.bool false)]) rfl rfl ?_
 refine Pu .nilIface (PO.extract rfl rfl) rfl ?_
 refine Pu (.bool false) (PO.extract rfl rfl) rfl ?_
 refine Pa .nilIface rfl rfl ?_
 refine Pa (.bool false) rfl rfl ?_
 refine Ns ?_
 refine Pm (.bool false) rfl rfl ?_
 refine Pm (.bool false) rfl rfl ?_
 iterate 3 refine Of 26 rfl rfl rfl rfl ?_
 refine Pu (.bool false) (PO.pickF rfl rfl rfl) rfl ?_
 refine Nt ?_
 refine WC.condF (b := false) rfl rfl ?_
 refine WC.skip ?_
 refine WQ.thenC ?_
 refine Sr ?_
 refine Pm (GV (GErr.code n24)) hs21_0 rfl ?_
 refine Nt ?_
 refine WC.block ?_
 refine Sr ?_
 refine Pu (.tuple #[.nilIface, (.bool false)]) (PO.asserts (show ev _ _ = (.iface 35 (.int .i64 n24)) from rfl) (la35_148 _ _)) rfl ?_
 refine Pu (.bool false) (PO.extract rfl rfl) rfl ?_
 refine Pu .nilIface (PO.extract rfl rfl) rfl ?_
 refine Nt ?_
 refine WC.condF (b := false) rfl rfl ?_
 refine Sr ?_
 refine Pu (.tuple #[.nilIface, (.bool false)]) (PO.asserts (show ev _ _ = (.iface 35 (.int .i64 n24)) from rfl) (la35_149 _ _)) rfl ?_
 refine Pu (.bool false) (PO.extract rfl rfl) rfl ?_
 refine Pu .nilIface (PO.extract rfl rfl) rfl ?_
 refine Nt ?_
 refine WC.condF (b := false) rfl rfl ?_
 refine Sr ?_
 refine Pa (GV (GErr.code n24)) rfl rfl ?_
 refine Ns ?_
 refine Pa (.bool false) rfl rfl ?_
 refine Nt ?_
 refine WC.ret ?_
 refine WQ.blockR ?_
 refine WQ.blockR ?_
 refine WQ.leaveR false (Option.some.inj h).symm (fun heq21 => ?_)
 subst heq21
 have h := hK21
 refine WQ.blockR ?_
 exact WQ.returnsF h [] rfl (results1 rfl rfl) hle21 ⟨rfl, rfl⟩
 refine Pu (.bool false) (PO.ifaceNe Tryz.underlying30 (show ev _ _ = (.iface 98 (.agg #[.string o25, .int .i64 a26, GV e27])) from rfl) (show ev _ _ = (.iface 35 (.int .i64 a1)) from rfl) rfl) rfl ?_
 refine Pu (.bool false) (PO.pickT rfl rfl rfl) rfl ?_
 refine Nt ?_
 refine WC.condF (b := false) rfl rfl ?_
 refine WC.skip ?_
 refine WQ.thenC ?_
 refine WC.seq ?_
 refine Sr ?_
 refine Pm (GV (GErr.fault o25 a26 e27)) hs21_0 rfl ?_
 refine Pu (.tuple #[.nilIface, (.bool false)]) (PO.asserts (show ev _ _ = (.iface 98 (.agg #[.string o25, .int .i64 a26, GV e27])) from rfl) (la98_145 _ _)) rfl ?_
 refine Pm (.tuple #[.nilIface, (.bool false)]) rfl rfl ?_
 refine Pu .nilIface (PO.extract rfl rfl) rfl ?_
 refine Pu (.bool false) (PO.extract rfl rfl) rfl ?_
 refine Pa .nilIface rfl rfl ?_
 refine Pa (.bool false) rfl rfl ?_
 refine Ns ?_
 refine Pm (.bool false) rfl rfl ?_
 refine Pm (.bool false) rfl rfl ?_
 iterate 3 refine Of 26 rfl rfl rfl rfl ?_
 refine Pu (.bool false) (PO.pickF rfl rfl rfl) rfl ?_
 refine Nt ?_
 refine WC.condF (b := false) rfl rfl ?_
 refine WC.skip ?_
 refine WQ.thenC ?_
 refine Sr ?_
 refine Pm (GV (GErr.fault o25 a26 e27)) hs21_0 rfl ?_
 refine Nt ?_
 refine WC.block ?_
 refine Sr ?_
 refine Pu (.tuple #[(GV (GErr.fault o25 a26 e27)), (.bool true)]) (PO.asserts (show ev _ _ = (.iface 98 (.agg #[.string o25, .int .i64 a26, GV e27])) from rfl) (ha98_148 _ _)) rfl ?_
 refine Pu (.bool true) (PO.extract rfl rfl) rfl ?_
 refine Pu (GV (GErr.fault o25 a26 e27)) (PO.extract rfl rfl) rfl ?_
 refine Nt ?_
 refine WC.condT (b := true) rfl rfl ?_
 refine Sr ?_
 refine Pa (GV (GErr.fault o25 a26 e27)) rfl rfl ?_
 refine Ns ?_
 refine Pm (GV (GErr.fault o25 a26 e27)) rfl rfl ?_
 obtain ⟨r30, hr31, h⟩ := bnd h
 refine WL.eff (EO.invT (show ev _ _ = (.iface 98 (.agg #[.string o25, .int .i64 a26, GV e27])) from rfl) (me98_Unwrap _) co108 inv0 (f_api_Fault_Unwrap_ok (⟨o25, a26, e27⟩ : T_api_Fault) _ r30 hr31)) rfl ?_
 rintro _ M32 _ hle33 ⟨_, ⟨rfl, rfl⟩, rfl⟩
 refine WL.a0 ?_
 refine Pa (GV r30) rfl rfl ?_
 refine Ns ?_
 refine Pm (GV r30) rfl rfl ?_
 refine Pu (.bool r30.isNil) (PO.errNil Tryz.underlying30 rfl) rfl ?_
 refine Nt ?_
 refine WC.cond (b := r30.isNil) rfl (fun hb35 => ?_) (fun hb35 => ?_)
 have h := ite_t hb35 h
 refine Sr ?_
 refine Pa (.bool false) rfl rfl ?_
 refine Nt ?_
 refine WC.ret ?_
 refine WQ.blockR ?_
 refine WQ.blockR ?_
 refine WQ.leaveR false (Option.some.inj h).symm (fun heq21 => ?_)
 subst heq21
 have h := hK21
 refine WQ.blockR ?_
 exact WQ.returnsF h [] rfl (results1 rfl rfl) (hle21.trans hle33) ⟨rfl, rfl⟩
 have h := ite_f hb35 h
 refine WC.skip ?_
 refine WQ.blockN ?_
 refine WQ.blockN ?_
 refine WQ.again r30 (Option.some.inj h).symm ?_
 exact ⟨(hle21.trans hle33), rfl, rfl, hs21_1, hs21_2⟩
 refine Pu (.bool false) (PO.ifaceNe Tryz.underlying30 (show ev _ _ = (.iface 0 (.pointer (some b28))) from rfl) (show ev _ _ = (.iface 35 (.int .i64 a1)) from rfl) rfl) rfl ?_
 refine Pu (.bool false) (PO.pickT rfl rfl rfl) rfl ?_
 refine Nt ?_
 refine WC.condF (b := false) rfl rfl ?_
 refine WC.skip ?_
 refine WQ.thenC ?_
 refine WC.seq ?_
 refine Sr ?_
 refine Pm (GV (GErr.other b28)) hs21_0 rfl ?_
 refine Pu (.tuple #[.nilIface, (.bool false)]) (PO.asserts (show ev _ _ = (.iface 0 (.pointer (some b28))) from rfl) (la0_145 _ _)) rfl ?_
 refine Pm (.tuple #[.nilIface, (.bool false)]) rfl rfl ?_
 refine Pu .nilIface (PO.extract rfl rfl) rfl ?_
 refine Pu (.bool false) (PO.extract rfl rfl) rfl ?_
 refine Pa .nilIface rfl rfl ?_
 refine Pa (.bool false) rfl rfl ?_
 refine Ns ?_
 refine Pm (.bool false) rfl rfl ?_
 refine Pm (.bool false) rfl rfl ?_
 iterate 3 refine Of 26 rfl rfl rfl rfl ?_
 refine Pu (.bool false) (PO.pickF rfl rfl rfl) rfl ?_
 refine Nt ?_
 refine WC.condF (b := false) rfl rfl ?_
 refine WC.skip ?_
 refine WQ.thenC ?_
 refine Sr ?_
 refine Pm (GV (GErr.other b28)) hs21_0 rfl ?_
 refine Nt ?_
 refine WC.block ?_
 refine Sr ?_
 refine Pu (.tuple #[.nilIface, (.bool false)]) (PO.asserts (show ev _ _ = (.iface 0 (.pointer (some b28))) from rfl) (la0_148 _ _)) rfl ?_
 refine Pu (.bool false) (PO.extract rfl rfl) rfl ?_
 refine Pu .nilIface (PO.extract rfl rfl) rfl ?_
 refine Nt ?_
 refine WC.condF (b := false) rfl rfl ?_
 refine Sr ?_
 refine Pu (.tuple #[.nilIface, (.bool false)]) (PO.asserts (show ev _ _ = (.iface 0 (.pointer (some b28))) from rfl) (la0_149 _ _)) rfl ?_
 refine Pu (.bool false) (PO.extract rfl rfl) rfl ?_
 refine Pu .nilIface (PO.extract rfl rfl) rfl ?_
 refine Nt ?_
 refine WC.condF (b := false) rfl rfl ?_
 refine Sr ?_
 refine Pa (GV (GErr.other b28)) rfl rfl ?_
 refine Ns ?_
 refine Pa (.bool false) rfl rfl ?_
 refine Nt ?_
 refine WC.ret ?_
 refine WQ.blockR ?_
 refine WQ.blockR ?_
 refine WQ.leaveR false (Option.some.inj h).symm (fun heq21 => ?_)
 subst heq21
 have h := hK21
 refine WQ.blockR ?_
 exact WQ.returnsF h [] rfl (results1 rfl rfl) hle21 ⟨rfl, rfl⟩

noncomputable def f_errors_Is (a0 : GErr) (a1 : Int) : Option Bool :=
  (if a0.isNil = true then (match a0 with | .nil => (some false) | .code n22 => (some (decide (n22 = a1))) | .fault o23 a24 e25 => (some false) | .other b26 => (some false)) else ((f_errors_is a0 a1).bind fun (r27 : Bool) => (some r27)))
def f_errors_Is_post (a0 : GErr) (a1 : Int) : Bool → Value → IM → HL → Prop :=
  fun (r0 : Bool) (v : Value) (M' : IM) (H' : HL) => (.bool r0) = v ∧ H' = []
theorem f_errors_Is_ok (a0 : GErr) (a1 : Int) (M : IM) (res : Bool) (h : f_errors_Is a0 a1 = some res) :
    Tri Tryz.prog 52 #[(GV a0), (GV (GErr.code a1))] M [] (f_errors_Is_post a0 a1 res) := by
 unfold f_errors_Is at h
 refine Tri.enter (fn := Tryz.f52) Tryz.func52 rfl (Nat.le_of_ble_eq_true rfl) ?_
 intro F ρ hρ
 refine Sr ?_
 refine Pa (.bool false) rfl rfl ?_
 refine Nt ?_
 refine WC.seq ?_
 refine Sr ?_
 refine Pm (GV a0) (hρ 0) rfl ?_
 refine Pu (.bool a0.isNil) (PO.errNil Tryz.underlying30 rfl) rfl ?_
 refine Pm (.bool a0.isNil) rfl rfl ?_
 rcases Bool.eq_false_or_eq_true (a0.isNil) with hb21 | hb21
 have h := ite_t hb21 h
 iterate 2 refine Of 8 rfl rfl hb21 rfl ?_
 refine Pu (.bool true) (PO.pickT rfl hb21 rfl) rfl ?_
 refine Nt ?_
 refine WC.condT (b := true) rfl rfl ?_
 refine Sr ?_
 refine Pm (GV a0) (hρ 0) rfl ?_
 refine Pm (GV (GErr.code a1)) (hρ 1) rfl ?_
 rcases a0 with _ | n22 | ⟨o23, a24, e25⟩ | b26
 refine Pu (.bool false) (PO.nilIfaceNe Tryz.underlying30 (show ev _ _ = .nilIface from rfl) (show ev _ _ = (.iface 35 (.int .i64 a1)) from rfl)) rfl ?_
 refine Pa (.bool false) rfl rfl ?_
 refine Nt ?_
 refine WC.ret ?_
 refine WQ.thenR ?_
 exact WQ.returnsF h [] rfl (results1 rfl rfl) (IM.le.refl _) ⟨rfl, rfl⟩
 refine Pu (.bool (decide (n22 = a1))) (PO.ifaceInt Tryz.underlying30 Tryz.underlying35 cm35 (show ev _ _ = (.iface 35 (.int .i64 n22)) from rfl) (show ev _ _ = (.iface 35 (.int .i64 a1)) from rfl)) rfl ?_
 refine Pa (.bool (decide (n22 = a1))) rfl rfl ?_
 refine Nt ?_
 refine WC.ret ?_
 refine WQ.thenR ?_
 exact WQ.returnsF h [] rfl (results1 rfl rfl) (IM.le.refl _) ⟨rfl, rfl⟩
 refine Pu (.bool false) (PO.ifaceNe Tryz.underlying30 (show ev _ _ = (.iface 98 (.agg #[.string o23, .int .i64 a24, GV e25])) from rfl) (show ev _ _ = (.iface 35 (.int .i64 a1)) from rfl) rfl) rfl ?_
 refine Pa (.bool false) rfl rfl ?_
 refine Nt ?_
 refine WC.ret ?_
 refine WQ.thenR ?_
 exact WQ.returnsF h [] rfl (results1 rfl rfl) (IM.le.refl _) ⟨rfl, rfl⟩
 refine Pu (.bool false) (PO.ifaceNe Tryz.underlying30 (show ev _ _ = (.iface 0 (.pointer (some b26))) from rfl) (show ev _ _ = (.iface 35 (.int .i64 a1)) from rfl) rfl) rfl ?_
 refine Pa (.bool false) rfl rfl ?_
 refine Nt ?_
 refine WC.ret ?_
 refine WQ.thenR ?_
 exact WQ.returnsF h [] rfl (results1 rfl rfl) (IM.le.refl _) ⟨rfl, rfl⟩
 have h := ite_f hb21 h
 refine On 8 rfl rfl hb21 ?_
 refine Pm (GV (GErr.code a1)) (hρ 1) rfl ?_
 refine On 8 rfl rfl hb21 ?_
 refine Pu (.bool false) (PO.errNil (tc := 35) (tf := 98) (tp := 0) (e := GErr.code a1) Tryz.underlying30 rfl) rfl ?_
 refine Pu (.bool false) (PO.pickF rfl hb21 rfl) rfl ?_
 refine Nt ?_
 refine WC.condF (b := false) rfl rfl ?_
 refine WC.skip ?_
 refine WQ.thenC ?_
 refine Sr ?_
 refine Pm (GV (GErr.code a1)) (hρ 1) rfl ?_
 refine WL.eff (EO.extP xt71 (args1 (show ev _ _ = (.iface 35 (.int .i64 a1)) from rfl)) (ty35 _)) rfl ?_
 rintro _ _ _ - ⟨rfl, rfl, rfl⟩
 refine WL.eff (EO.invE (show ev _ _ = (.iface 143 (.agg #[.pointer (some ⟨1, 35, none⟩)])) from rfl) (mm_Comparable (pt 1 35)) xt114 inv0 mr_Comparable_35) rfl ?_
 rintro _ _ _ - ⟨rfl, rfl, rfl⟩
 refine Pa (.bool true) rfl rfl ?_
 refine Ns ?_
 refine Pm (GV a0) (hρ 0) rfl ?_
 refine Pm (GV (GErr.code a1)) (hρ 1) rfl ?_
 refine Pm (.bool true) rfl rfl ?_
 obtain ⟨r27, hr28, h⟩ := bnd h
 refine WL.eff (EO.call0 co72 (f_errors_is_ok a0 a1 _ r27 hr28) (args3 rfl rfl rfl)) rfl ?_
 rintro _ M29 _ hle30 ⟨_, ⟨rfl, rfl⟩, rfl⟩
 refine WL.a0 ?_
 refine Pa (.bool r27) rfl rfl ?_
 refine Nt ?_
 refine WC.ret ?_
 exact WQ.returnsF h [] rfl (results1 rfl rfl) hle30 ⟨rfl, rfl⟩

noncomputable def f_fault_Is (a0 : GErr) (a1 : Int) : Option Bool :=
  ((f_errors_Is a0 a1).bind fun (r21 : Bool) => (some r21))
def f_fault_Is_post (a0 : GErr) (a1 : Int) : Bool → Value → IM → HL → Prop :=
  fun (r0 : Bool) (v : Value) (M' : IM) (H' : HL) => (.bool r0) = v ∧ H' = []
theorem f_fault_Is_ok (a0 : GErr) (a1 : Int) (M : IM) (res : Bool) (h : f_fault_Is a0 a1 = some res) :
    Tri Tryz.prog 14 #[(GV a0), (.int .i64 a1)] M [] (f_fault_Is_post a0 a1 res) := by
 unfold f_fault_Is at h
 refine Tri.enter (fn := Tryz.f14) Tryz.func14 rfl (Nat.le_of_ble_eq_true rfl) ?_
 intro F ρ hρ
 refine Sr ?_
 refine Pa (.bool false) rfl rfl ?_
 refine Ns ?_
 refine Pm (GV a0) (hρ 0) rfl ?_
 refine Pm (.int .i64 a1) (hρ 1) rfl ?_
 refine Pu (GV (GErr.code a1)) (PO.makeInterface cc35 rfl) rfl ?_
 obtain ⟨r21, hr22, h⟩ := bnd h
 refine WL.eff (EO.call0 co52 (f_errors_Is_ok a0 a1 _ r21 hr22) (args2 rfl rfl)) rfl ?_
 rintro _ M23 _ hle24 ⟨_, ⟨rfl, rfl⟩, rfl⟩
 refine WL.a0 ?_
 refine Pa (.bool r21) rfl rfl ?_
 refine Nt ?_
 refine WC.ret ?_
 exact WQ.returnsF h [] rfl (results1 rfl rfl) hle24 ⟨rfl, rfl⟩


end Go.Proofs.YtjgnbbakamellaaGreatDoor.G
