/- Go functions: what they come to, and that they do. Printed by a program of the session (gen). -/
import Derived.Test.YtjiffdgidodebaaDoorCF
import Derived.Test.YtjiffdgidodebaaDoorC8
import Derived.Test.YtjiffdgidodebaaDoorKShar2
import Derived.Test.YtjiffdgidodebaaDoorKConv
set_option linter.unusedVariables false
set_option linter.unusedSimpArgs false
set_option maxHeartbeats 8000000
set_option maxRecDepth 100000
namespace Go.Proofs.YtjiffdgidodebaaDoor.G
open Go Go.KK

noncomputable def f_record_Same (a0 : T_api_Record) (a1 : T_api_Record) : Option Bool :=
  ((((f_slices_Equal_int_int a0.Ids a1.Ids).bind fun (r25 : Bool) => (if (!r25) = true then (some true) else ((f_slices_Equal_int_int a0.Isr a1.Isr).bind fun (r31 : Bool) => (if (!r31) = true then (some true) else ((f_slices_Equal_int_int a0.Add a1.Add).bind fun (r37 : Bool) => (if (!r37) = true then (some true) else ((f_slices_Equal_int_int a0.Drop a1.Drop).bind fun (r43 : Bool) => (some (!r43))))))))) : Option Bool).bind fun (x23 : Bool) => (if x23 = true then (some false) else ((((f_record_Same_1 a0).bind fun (r51 : (List Int)) => ((f_record_Same_1 a1).bind fun (r56 : (List Int)) => (if (andL [decide ((rd r51 (0 : Int)) = (rd r56 (0 : Int))), decide ((rd r51 (1 : Int)) = (rd r56 (1 : Int))), decide ((rd r51 (2 : Int)) = (rd r56 (2 : Int))), decide ((rd r51 (3 : Int)) = (rd r56 (3 : Int))), decide ((rd r51 (4 : Int)) = (rd r56 (4 : Int))), decide ((rd r51 (5 : Int)) = (rd r56 (5 : Int))), decide ((rd r51 (6 : Int)) = (rd r56 (6 : Int))), decide ((rd r51 (7 : Int)) = (rd r56 (7 : Int))), decide ((rd r51 (8 : Int)) = (rd r56 (8 : Int)))]) = true then ((f_record_Same_2 a0).bind fun (r62 : (List ByteArray)) => ((f_record_Same_2 a1).bind fun (r67 : (List ByteArray)) => (if (andL [(rd r62 (0 : Int)) == (rd r67 (0 : Int)), (rd r62 (1 : Int)) == (rd r67 (1 : Int)), (rd r62 (2 : Int)) == (rd r67 (2 : Int)), (rd r62 (3 : Int)) == (rd r67 (3 : Int))]) = true then (some (a0.Flag == a1.Flag)) else (some false)))) else (some false)))) : Option Bool).bind fun (x49 : Bool) => (some x49))))
def f_record_Same_post (a0 : T_api_Record) (a1 : T_api_Record) (v0_14 v0_15 v0_16 v0_17 v1_14 v1_15 v1_16 v1_17 : Value) : Bool → Value → IM → HL → Prop :=
  fun (r0 : Bool) (v : Value) (M' : IM) (H' : HL) => (.bool r0) = v ∧ H' = []
theorem f_record_Same_ok (a0 : T_api_Record) (a1 : T_api_Record) (M : IM) (v0_14 v0_15 v0_16 v0_17 v1_14 v1_15 v1_16 v1_17 : Value) (h0_14 : RS (Kd.int .i64) M v0_14 a0.Ids) (h0_15 : RS (Kd.int .i64) M v0_15 a0.Isr) (h0_16 : RS (Kd.int .i64) M v0_16 a0.Add) (h0_17 : RS (Kd.int .i64) M v0_17 a0.Drop) (h1_14 : RS (Kd.int .i64) M v1_14 a1.Ids) (h1_15 : RS (Kd.int .i64) M v1_15 a1.Isr) (h1_16 : RS (Kd.int .i64) M v1_16 a1.Add) (h1_17 : RS (Kd.int .i64) M v1_17 a1.Drop) (res : Bool) (h : f_record_Same a0 a1 = some res) :
    Tri Tryd.prog 76 #[(a106_ a0 v0_14 v0_15 v0_16 v0_17), (a106_ a1 v1_14 v1_15 v1_16 v1_17)] M [] (f_record_Same_post a0 a1 v0_14 v0_15 v0_16 v0_17 v1_14 v1_15 v1_16 v1_17 res) := by
 unfold f_record_Same at h
 refine Tri.enter (fn := Tryd.f76) Tryd.func76 rfl (Nat.le_of_ble_eq_true rfl) ?_
 intro F ρ hρ
 refine Sr ?_
 refine WL.eff (EO.box (cs := (l106 a0 v0_14 v0_15 v0_16 v0_17).toArray) (congrArg Value.cells (asE (a106_ a0 v0_14 v0_15 v0_16 v0_17) (hρ 0)))) rfl ?_
 rintro _ _ _ - ⟨rfl, g21, rfl, rfl⟩
 refine WL.eff (EO.box (cs := (l106 a1 v1_14 v1_15 v1_16 v1_17).toArray) (congrArg Value.cells (asE (a106_ a1 v1_14 v1_15 v1_16 v1_17) (hρ 1)))) rfl ?_
 rintro _ _ _ - ⟨rfl, g22, rfl, rfl⟩
 refine Pa (.bool false) rfl rfl ?_
 refine Nt ?_
 refine WC.seq ?_
 obtain ⟨x23, hj24, h⟩ := bnd h
 refine WC.joinF (fun (x23 : Bool) ρ' M' H' => M.le M' ∧ [(g22, .cells (l106 a1 v1_14 v1_15 v1_16 v1_17).toArray 106 (0, 0))] :: [(g21, .cells (l106 a0 v0_14 v0_15 v0_16 v0_17).toArray 106 (0, 0))] :: F = H' ∧ ρ' 2 = (pt g21 0) ∧ ρ' 3 = (pt g22 0) ∧ ρ' 36 = (.bool x23)) x23 ?_ ?_
 have h324 := h
 have h := hj24
 refine WC.region ?_
 refine Pu (pt g21 14) (PO.fieldAddr fo106_14 rfl rfl) rfl ?_
 refine Pu v0_14 (PO.loadB 1 pl95 rfl rfl rfl) rfl ?_
 refine Pu (pt g22 14) (PO.fieldAddr fo106_14 rfl rfl) rfl ?_
 refine Pu v1_14 (PO.loadB 0 pl95 rfl rfl rfl) rfl ?_
 obtain ⟨r25, hr26, h⟩ := bnd h
 refine WL.eff (EO.call0 co99 (f_slices_Equal_int_int_ok a0.Ids a1.Ids _ _ _ h0_14 h1_14 r25 hr26) (args2 rfl rfl)) rfl ?_
 rintro _ M27 _ hle28 ⟨_, ⟨rfl, rfl⟩, rfl⟩
 have h0_14 := h0_14.mono hle28
 have h1_14 := h1_14.mono hle28
 have h0_15 := h0_15.mono hle28
 have h0_16 := h0_16.mono hle28
 have h0_17 := h0_17.mono hle28
 have h1_15 := h1_15.mono hle28
 have h1_16 := h1_16.mono hle28
 have h1_17 := h1_17.mono hle28
 refine WL.a0 ?_
 refine Pu (.bool (!r25)) (PO.not rfl) rfl ?_
 refine Pm (.bool (!r25)) rfl rfl ?_
 rcases Bool.eq_false_or_eq_true (!r25) with hb30 | hb30
 have h := ite_t hb30 h
 iterate 6 refine Of 13 rfl rfl hb30 rfl ?_
 refine Pu (.bool true) (PO.pickT rfl hb30 rfl) rfl ?_
 refine Pm (.bool true) rfl rfl ?_
 iterate 6 refine Of 21 rfl rfl rfl rfl ?_
 refine Pu (.bool true) (PO.pickT rfl rfl rfl) rfl ?_
 refine Pm (.bool true) rfl rfl ?_
 iterate 6 refine Of 29 rfl rfl rfl rfl ?_
 refine Pu (.bool true) (PO.pickT rfl rfl rfl) rfl ?_
 refine WL.nil ?_
 obtain rfl := Option.some.inj h
 refine WQ.thenJ ?_
 exact ⟨hle28, rfl, rfl, rfl, rfl⟩
 have h := ite_f hb30 h
 refine On 13 rfl rfl hb30 ?_
 refine Pu (pt g21 15) (PO.fieldAddr fo106_15 rfl rfl) rfl ?_
 refine On 13 rfl rfl hb30 ?_
 refine Pu v0_15 (PO.loadB 1 pl95 rfl rfl rfl) rfl ?_
 refine On 13 rfl rfl hb30 ?_
 refine Pu (pt g22 15) (PO.fieldAddr fo106_15 rfl rfl) rfl ?_
 refine On 13 rfl rfl hb30 ?_
 refine Pu v1_15 (PO.loadB 0 pl95 rfl rfl rfl) rfl ?_
 refine On 13 rfl rfl hb30 ?_
 obtain ⟨r31, hr32, h⟩ := bnd h
 refine WL.eff (EO.call0 co99 (f_slices_Equal_int_int_ok a0.Isr a1.Isr _ _ _ h0_15 h1_15 r31 hr32) (args2 rfl rfl)) rfl ?_
 rintro _ M33 _ hle34 ⟨_, ⟨rfl, rfl⟩, rfl⟩
 have h0_14 := h0_14.mono hle34
 have h1_14 := h1_14.mono hle34
 have h0_15 := h0_15.mono hle34
 have h1_15 := h1_15.mono hle34
 have h0_16 := h0_16.mono hle34
 have h0_17 := h0_17.mono hle34
 have h1_16 := h1_16.mono hle34
 have h1_17 := h1_17.mono hle34
 refine WL.a0 ?_
 refine On 13 rfl rfl hb30 ?_
 refine Pu (.bool (!r31)) (PO.not rfl) rfl ?_
 refine Pu (.bool (!r31)) (PO.pickF rfl hb30 rfl) rfl ?_
 refine Pm (.bool (!r31)) rfl rfl ?_
 rcases Bool.eq_false_or_eq_true (!r31) with hb36 | hb36
 have h := ite_t hb36 h
 iterate 6 refine Of 21 rfl rfl hb36 rfl ?_
 refine Pu (.bool true) (PO.pickT rfl hb36 rfl) rfl ?_
 refine Pm (.bool true) rfl rfl ?_
 iterate 6 refine Of 29 rfl rfl rfl rfl ?_
 refine Pu (.bool true) (PO.pickT rfl rfl rfl) rfl ?_
 refine WL.nil ?_
 obtain rfl := Option.some.inj h
 refine WQ.thenJ ?_
 exact ⟨(hle28.trans hle34), rfl, rfl, rfl, rfl⟩
 have h := ite_f hb36 h
 refine On 21 rfl rfl hb36 ?_
 refine Pu (pt g21 16) (PO.fieldAddr fo106_16 rfl rfl) rfl ?_
 refine On 21 rfl rfl hb36 ?_
 refine Pu v0_16 (PO.loadB 1 pl95 rfl rfl rfl) rfl ?_
 refine On 21 rfl rfl hb36 ?_
 refine Pu (pt g22 16) (PO.fieldAddr fo106_16 rfl rfl) rfl ?_
 refine On 21 rfl rfl hb36 ?_
 refine Pu v1_16 (PO.loadB 0 pl95 rfl rfl rfl) rfl ?_
 refine On 21 rfl rfl hb36 ?_
 obtain ⟨r37, hr38, h⟩ := bnd h
 refine WL.eff (EO.call0 co99 (f_slices_Equal_int_int_ok a0.Add a1.Add _ _ _ h0_16 h1_16 r37 hr38) (args2 rfl rfl)) rfl ?_
 rintro _ M39 _ hle40 ⟨_, ⟨rfl, rfl⟩, rfl⟩
 have h0_14 := h0_14.mono hle40
 have h1_14 := h1_14.mono hle40
 have h0_15 := h0_15.mono hle40
 have h1_15 := h1_15.mono hle40
 have h0_16 := h0_16.mono hle40
 have h1_16 := h1_16.mono hle40
 have h0_17 := h0_17.mono hle40
 have h1_17 := h1_17.mono hle40
 refine WL.a0 ?_
 refine On 21 rfl rfl hb36 ?_
 refine Pu (.bool (!r37)) (PO.not rfl) rfl ?_
 refine Pu (.bool (!r37)) (PO.pickF rfl hb36 rfl) rfl ?_
 refine Pm (.bool (!r37)) rfl rfl ?_
 rcases Bool.eq_false_or_eq_true (!r37) with hb42 | hb42
 have h := ite_t hb42 h
 iterate 6 refine Of 29 rfl rfl hb42 rfl ?_
 refine Pu (.bool true) (PO.pickT rfl hb42 rfl) rfl ?_
 refine WL.nil ?_
 obtain rfl := Option.some.inj h
 refine WQ.thenJ ?_
 exact ⟨((hle28.trans hle34).trans hle40), rfl, rfl, rfl, rfl⟩
 have h := ite_f hb42 h
 refine On 29 rfl rfl hb42 ?_
 refine Pu (pt g21 17) (PO.fieldAddr fo106_17 rfl rfl) rfl ?_
 refine On 29 rfl rfl hb42 ?_
 refine Pu v0_17 (PO.loadB 1 pl95 rfl rfl rfl) rfl ?_
 refine On 29 rfl rfl hb42 ?_
 refine Pu (pt g22 17) (PO.fieldAddr fo106_17 rfl rfl) rfl ?_
 refine On 29 rfl rfl hb42 ?_
 refine Pu v1_17 (PO.loadB 0 pl95 rfl rfl rfl) rfl ?_
 refine On 29 rfl rfl hb42 ?_
 obtain ⟨r43, hr44, h⟩ := bnd h
 refine WL.eff (EO.call0 co99 (f_slices_Equal_int_int_ok a0.Drop a1.Drop _ _ _ h0_17 h1_17 r43 hr44) (args2 rfl rfl)) rfl ?_
 rintro _ M45 _ hle46 ⟨_, ⟨rfl, rfl⟩, rfl⟩
 have h0_14 := h0_14.mono hle46
 have h1_14 := h1_14.mono hle46
 have h0_15 := h0_15.mono hle46
 have h1_15 := h1_15.mono hle46
 have h0_16 := h0_16.mono hle46
 have h1_16 := h1_16.mono hle46
 have h0_17 := h0_17.mono hle46
 have h1_17 := h1_17.mono hle46
 refine WL.a0 ?_
 refine On 29 rfl rfl hb42 ?_
 refine Pu (.bool (!r43)) (PO.not rfl) rfl ?_
 refine Pu (.bool (!r43)) (PO.pickF rfl hb42 rfl) rfl ?_
 refine WL.nil ?_
 obtain rfl := Option.some.inj h
 refine WQ.thenJ ?_
 exact ⟨(((hle28.trans hle34).trans hle40).trans hle46), rfl, rfl, rfl, rfl⟩
 rintro ρ24 M24 H24 ⟨hle24, rfl, hs24_2, hs24_3, hs24_36⟩
 have h1_14 := h1_14.mono hle24
 have h1_15 := h1_15.mono hle24
 have h1_16 := h1_16.mono hle24
 have h1_17 := h1_17.mono hle24
 have h0_14 := h0_14.mono hle24
 have h0_15 := h0_15.mono hle24
 have h0_16 := h0_16.mono hle24
 have h0_17 := h0_17.mono hle24
 refine WC.cond (b := x23) hs24_36 (fun hb48 => ?_) (fun hb48 => ?_)
 have h := ite_t hb48 h
 refine Sr ?_
 refine Pa (.bool false) rfl rfl ?_
 refine Nt ?_
 refine WC.ret ?_
 refine WQ.thenR ?_
 refine WQ.drop ?_
 refine WQ.drop ?_
 exact WQ.returnsF h [] rfl (results1 rfl rfl) hle24 ⟨rfl, rfl⟩
 have h := ite_f hb48 h
 refine WC.skip ?_
 refine WQ.thenC ?_
 refine Sr ?_
 refine Pa (.func (.func 100) #[] #[]) rfl rfl ?_
 refine Ns ?_
 refine Pa (.func (.func 101) #[] #[]) rfl rfl ?_
 refine Nt ?_
 obtain ⟨x49, hj50, h⟩ := bnd h
 refine WC.joinF (fun (x49 : Bool) ρ' M' H' => M24.le M' ∧ [(g22, .cells (l106 a1 v1_14 v1_15 v1_16 v1_17).toArray 106 (0, 0))] :: [(g21, .cells (l106 a0 v0_14 v0_15 v0_16 v0_17).toArray 106 (0, 0))] :: F = H' ∧ ρ' 4 = (.bool x49)) x49 ?_ ?_
 have h350 := h
 have h := hj50
 refine WC.draw [0, 0, 3, 0, 0, 31, 63, 127, 255, 255, 1023, 255, 255, 8191, 16383, 32767, 65535, 131071, 262143, 131071, 655359, 2097151, 4194303, 8388607] (.pure 0 (.pure 1 (.pure 3 (.pure 4 (.alt 2 (.alt 5 (.pure 6 (.pure 7 (.pure 8 (.pure 9 (.pure 11 (.pure 12 (.alt 10 (.alt 13 (.pure 14 (.pure 15 (.pure 16 (.pure 17 (.pure 18 (.pure 19 (.pure 20 (.pure 21 (.pure 22 (.pure 23 .done)))))))))) .none) .none))))))) .none) .none))))) mixed (by kernel_rfl) ?_
 refine Tp (.func (.func 100) #[] #[]) rfl (PO.move rfl) rfl ?_
 refine Tp (a106_ a0 v0_14 v0_15 v0_16 v0_17) rfl (PO.loadBA (cs := (l106 a0 v0_14 v0_15 v0_16 v0_17)) 1 ag106 sz106 hs24_2 rfl rfl) rfl ?_
 refine Tp (.func (.func 100) #[] #[]) rfl (PO.move rfl) rfl ?_
 refine Tp (a106_ a1 v1_14 v1_15 v1_16 v1_17) rfl (PO.loadBA (cs := (l106 a1 v1_14 v1_15 v1_16 v1_17)) 0 ag106 sz106 hs24_3 rfl rfl) rfl ?_
 obtain ⟨r51, hr52, h⟩ := bnd h
 refine WT.alt rfl (EO.callV0 (first := #[]) (cap := #[]) co100 rfl (f_record_Same_1_ok a0 _ _ _ _ _ h0_14 h0_15 h0_16 h0_17 r51 hr52) (argsV1 rfl rfl)) rfl ?_ ?_
 rintro _ M53 _ hle54 ⟨_, ⟨rfl, rfl⟩, rfl⟩
 have h0_14 := h0_14.mono hle54
 have h0_15 := h0_15.mono hle54
 have h0_16 := h0_16.mono hle54
 have h0_17 := h0_17.mono hle54
 have h1_14 := h1_14.mono hle54
 have h1_15 := h1_15.mono hle54
 have h1_16 := h1_16.mono hle54
 have h1_17 := h1_17.mono hle54
 refine ⟨(StabL.st (StabA.of rfl (PO.loadBA (cs := (l106 a1 v1_14 v1_15 v1_16 v1_17)) 0 ag106 sz106 hs24_3 rfl rfl) rfl) (StabL.st (StabA.of rfl (PO.move rfl) rfl) (StabL.anc rfl (StabL.anc rfl trivial)))), ?_⟩
 refine WT.a0 ?_
 obtain ⟨r56, hr57, h⟩ := bnd h
 refine WT.alt rfl (EO.callV0 (first := #[]) (cap := #[]) co100 rfl (f_record_Same_1_ok a1 _ _ _ _ _ h1_14 h1_15 h1_16 h1_17 r56 hr57) (argsV1 rfl rfl)) rfl ?_ ?_
 rintro _ M58 _ hle59 ⟨_, ⟨rfl, rfl⟩, rfl⟩
 have h0_14 := h0_14.mono hle59
 have h0_15 := h0_15.mono hle59
 have h0_16 := h0_16.mono hle59
 have h0_17 := h0_17.mono hle59
 have h1_14 := h1_14.mono hle59
 have h1_15 := h1_15.mono hle59
 have h1_16 := h1_16.mono hle59
 have h1_17 := h1_17.mono hle59
 refine ⟨(StabL.anc rfl (StabL.anc rfl (StabL.anc rfl (StabL.anc rfl trivial)))), ?_⟩
 refine WT.a0 ?_
 refine Tp (.bool (andL [decide ((rd r51 (0 : Int)) = (rd r56 (0 : Int))), decide ((rd r51 (1 : Int)) = (rd r56 (1 : Int))), decide ((rd r51 (2 : Int)) = (rd r56 (2 : Int))), decide ((rd r51 (3 : Int)) = (rd r56 (3 : Int))), decide ((rd r51 (4 : Int)) = (rd r56 (4 : Int))), decide ((rd r51 (5 : Int)) = (rd r56 (5 : Int))), decide ((rd r51 (6 : Int)) = (rd r56 (6 : Int))), decide ((rd r51 (7 : Int)) = (rd r56 (7 : Int))), decide ((rd r51 (8 : Int)) = (rd r56 (8 : Int)))])) rfl (PO.eqAgg eg176 rfl rfl (run_equal_array Tryd.underlying176 pl3 sz3 (EqIs.cons rfl rfl (EqC.int Tryd.underlying3) (EqIs.cons rfl rfl (EqC.int Tryd.underlying3) (EqIs.cons rfl rfl (EqC.int Tryd.underlying3) (EqIs.cons rfl rfl (EqC.int Tryd.underlying3) (EqIs.cons rfl rfl (EqC.int Tryd.underlying3) (EqIs.cons rfl rfl (EqC.int Tryd.underlying3) (EqIs.cons rfl rfl (EqC.int Tryd.underlying3) (EqIs.cons rfl rfl (EqC.int Tryd.underlying3) (EqIs.cons rfl rfl (EqC.int Tryd.underlying3) EqIs.nil))))))))))) rfl ?_
 refine Tp (.bool (andL [decide ((rd r51 (0 : Int)) = (rd r56 (0 : Int))), decide ((rd r51 (1 : Int)) = (rd r56 (1 : Int))), decide ((rd r51 (2 : Int)) = (rd r56 (2 : Int))), decide ((rd r51 (3 : Int)) = (rd r56 (3 : Int))), decide ((rd r51 (4 : Int)) = (rd r56 (4 : Int))), decide ((rd r51 (5 : Int)) = (rd r56 (5 : Int))), decide ((rd r51 (6 : Int)) = (rd r56 (6 : Int))), decide ((rd r51 (7 : Int)) = (rd r56 (7 : Int))), decide ((rd r51 (8 : Int)) = (rd r56 (8 : Int)))])) rfl (PO.move rfl) rfl ?_
 rcases Bool.eq_false_or_eq_true (andL [decide ((rd r51 (0 : Int)) = (rd r56 (0 : Int))), decide ((rd r51 (1 : Int)) = (rd r56 (1 : Int))), decide ((rd r51 (2 : Int)) = (rd r56 (2 : Int))), decide ((rd r51 (3 : Int)) = (rd r56 (3 : Int))), decide ((rd r51 (4 : Int)) = (rd r56 (4 : Int))), decide ((rd r51 (5 : Int)) = (rd r56 (5 : Int))), decide ((rd r51 (6 : Int)) = (rd r56 (6 : Int))), decide ((rd r51 (7 : Int)) = (rd r56 (7 : Int))), decide ((rd r51 (8 : Int)) = (rd r56 (8 : Int)))]) with hb61 | hb61
 have h := ite_t hb61 h
 refine Tn (.func (.func 101) #[] #[]) 44 rfl rfl rfl hb61 (PO.move rfl) rfl ?_
 refine Tn (a106_ a0 v0_14 v0_15 v0_16 v0_17) 44 rfl rfl rfl hb61 (PO.loadBA (cs := (l106 a0 v0_14 v0_15 v0_16 v0_17)) 1 ag106 sz106 hs24_2 rfl rfl) rfl ?_
 refine Tn (.func (.func 101) #[] #[]) 44 rfl rfl rfl hb61 (PO.move rfl) rfl ?_
 refine Tn (a106_ a1 v1_14 v1_15 v1_16 v1_17) 44 rfl rfl rfl hb61 (PO.loadBA (cs := (l106 a1 v1_14 v1_15 v1_16 v1_17)) 0 ag106 sz106 hs24_3 rfl rfl) rfl ?_
 obtain ⟨r62, hr63, h⟩ := bnd h
 refine WT.altOn 44 rfl rfl rfl hb61 (EO.callV0 (first := #[]) (cap := #[]) co101 rfl (f_record_Same_2_ok a0 _ _ _ _ _ h0_14 h0_15 h0_16 h0_17 r62 hr63) (argsV1 rfl rfl)) rfl ?_ ?_
 rintro _ M64 _ hle65 ⟨_, ⟨rfl, rfl⟩, rfl⟩
 have h0_14 := h0_14.mono hle65
 have h0_15 := h0_15.mono hle65
 have h0_16 := h0_16.mono hle65
 have h0_17 := h0_17.mono hle65
 have h1_14 := h1_14.mono hle65
 have h1_15 := h1_15.mono hle65
 have h1_16 := h1_16.mono hle65
 have h1_17 := h1_17.mono hle65
 refine ⟨(StabL.st (StabA.on 44 rfl rfl rfl hb61 (PO.loadBA (cs := (l106 a1 v1_14 v1_15 v1_16 v1_17)) 0 ag106 sz106 hs24_3 rfl rfl) rfl) (StabL.st (StabA.on 44 rfl rfl rfl hb61 (PO.move rfl) rfl) (StabL.anc rfl (StabL.anc rfl (StabL.anc rfl (StabL.anc rfl (StabL.anc rfl (StabL.anc rfl (StabL.anc rfl (StabL.anc rfl trivial)))))))))), ?_⟩
 refine WT.a0 ?_
 obtain ⟨r67, hr68, h⟩ := bnd h
 refine WT.altOn 44 rfl rfl rfl hb61 (EO.callV0 (first := #[]) (cap := #[]) co101 rfl (f_record_Same_2_ok a1 _ _ _ _ _ h1_14 h1_15 h1_16 h1_17 r67 hr68) (argsV1 rfl rfl)) rfl ?_ ?_
 rintro _ M69 _ hle70 ⟨_, ⟨rfl, rfl⟩, rfl⟩
 have h0_14 := h0_14.mono hle70
 have h0_15 := h0_15.mono hle70
 have h0_16 := h0_16.mono hle70
 have h0_17 := h0_17.mono hle70
 have h1_14 := h1_14.mono hle70
 have h1_15 := h1_15.mono hle70
 have h1_16 := h1_16.mono hle70
 have h1_17 := h1_17.mono hle70
 refine ⟨(StabL.anc rfl (StabL.anc rfl (StabL.anc rfl (StabL.anc rfl (StabL.anc rfl (StabL.anc rfl (StabL.anc rfl (StabL.anc rfl (StabL.anc rfl (StabL.anc rfl trivial)))))))))), ?_⟩
 refine WT.a0 ?_
 refine Tn (.bool (andL [(rd r62 (0 : Int)) == (rd r67 (0 : Int)), (rd r62 (1 : Int)) == (rd r67 (1 : Int)), (rd r62 (2 : Int)) == (rd r67 (2 : Int)), (rd r62 (3 : Int)) == (rd r67 (3 : Int))])) 44 rfl rfl rfl hb61 (PO.eqAgg eg178 rfl rfl (run_equal_array Tryd.underlying178 pl9 sz9 (EqIs.cons rfl rfl (EqC.str Tryd.underlying9) (EqIs.cons rfl rfl (EqC.str Tryd.underlying9) (EqIs.cons rfl rfl (EqC.str Tryd.underlying9) (EqIs.cons rfl rfl (EqC.str Tryd.underlying9) EqIs.nil)))))) rfl ?_
 refine Tp (.bool (andL [(rd r62 (0 : Int)) == (rd r67 (0 : Int)), (rd r62 (1 : Int)) == (rd r67 (1 : Int)), (rd r62 (2 : Int)) == (rd r67 (2 : Int)), (rd r62 (3 : Int)) == (rd r67 (3 : Int))])) rfl (PO.pickT rfl hb61 rfl) rfl ?_
 refine Tp (.bool (andL [(rd r62 (0 : Int)) == (rd r67 (0 : Int)), (rd r62 (1 : Int)) == (rd r67 (1 : Int)), (rd r62 (2 : Int)) == (rd r67 (2 : Int)), (rd r62 (3 : Int)) == (rd r67 (3 : Int))])) rfl (PO.move rfl) rfl ?_
 rcases Bool.eq_false_or_eq_true (andL [(rd r62 (0 : Int)) == (rd r67 (0 : Int)), (rd r62 (1 : Int)) == (rd r67 (1 : Int)), (rd r62 (2 : Int)) == (rd r67 (2 : Int)), (rd r62 (3 : Int)) == (rd r67 (3 : Int))]) with hb72 | hb72
 have h := ite_t hb72 h
 refine Tn (pt g21 9) 53 rfl rfl rfl hb72 (PO.fieldAddr fo106_9 hs24_2 rfl) rfl ?_
 refine Tn (.bool a0.Flag) 53 rfl rfl rfl hb72 (PO.loadB 1 pl4 rfl rfl rfl) rfl ?_
 refine Tn (pt g22 9) 53 rfl rfl rfl hb72 (PO.fieldAddr fo106_9 hs24_3 rfl) rfl ?_
 refine Tn (.bool a1.Flag) 53 rfl rfl rfl hb72 (PO.loadB 0 pl4 rfl rfl rfl) rfl ?_
 refine Tn (.bool (a0.Flag == a1.Flag)) 53 rfl rfl rfl hb72 (PO.beql Tryd.underlying4 rfl rfl) rfl ?_
 refine Tp (.bool (a0.Flag == a1.Flag)) rfl (PO.pickT rfl hb72 rfl) rfl ?_
 refine Tp (.bool (a0.Flag == a1.Flag)) rfl (PO.assign rfl) rfl ?_
 refine WT.fin ?_
 obtain rfl := Option.some.inj h
 refine WQ.thenJ ?_
 exact ⟨(((hle54.trans hle59).trans hle65).trans hle70), rfl, rfl⟩
 have h := ite_f hb72 h
 refine WT.pureOff 53 rfl rfl rfl hb72 rfl ?_
 refine WT.pureOff 53 rfl rfl rfl hb72 rfl ?_
 refine WT.pureOff 53 rfl rfl rfl hb72 rfl ?_
 refine WT.pureOff 53 rfl rfl rfl hb72 rfl ?_
 refine WT.pureOff 53 rfl rfl rfl hb72 rfl ?_
 refine Tp (.bool false) rfl (PO.pickF rfl hb72 rfl) rfl ?_
 refine Tp (.bool false) rfl (PO.assign rfl) rfl ?_
 refine WT.fin ?_
 obtain rfl := Option.some.inj h
 refine WQ.thenJ ?_
 exact ⟨(((hle54.trans hle59).trans hle65).trans hle70), rfl, rfl⟩
 exact WT.no
 exact WT.no
 have h := ite_f hb61 h
 refine WT.pureOff 44 rfl rfl rfl hb61 rfl ?_
 refine WT.pureOff 44 rfl rfl rfl hb61 rfl ?_
 refine WT.pureOff 44 rfl rfl rfl hb61 rfl ?_
 refine WT.pureOff 44 rfl rfl rfl hb61 rfl ?_
 refine WT.altOff 44 rfl rfl rfl hb61 rfl ⟨(StabL.st (StabA.off 44 rfl rfl rfl hb61 rfl) (StabL.st (StabA.off 44 rfl rfl rfl hb61 rfl) (StabL.anc rfl (StabL.anc rfl (StabL.anc rfl (StabL.anc rfl (StabL.anc rfl (StabL.anc rfl (StabL.anc rfl (StabL.anc rfl trivial)))))))))), ?_⟩ ?_
 refine WT.altOff 44 rfl rfl rfl hb61 rfl ⟨(StabL.anc rfl (StabL.anc rfl (StabL.anc rfl (StabL.anc rfl (StabL.anc rfl (StabL.anc rfl (StabL.anc rfl (StabL.anc rfl (StabL.anc rfl (StabL.anc rfl trivial)))))))))), ?_⟩ ?_
 refine WT.pureOff 44 rfl rfl rfl hb61 rfl ?_
 refine Tp (.bool false) rfl (PO.pickF rfl hb61 rfl) rfl ?_
 refine Tp (.bool false) rfl (PO.move rfl) rfl ?_
 refine WT.pureOff 53 rfl rfl rfl rfl rfl ?_
 refine WT.pureOff 53 rfl rfl rfl rfl rfl ?_
 refine WT.pureOff 53 rfl rfl rfl rfl rfl ?_
 refine WT.pureOff 53 rfl rfl rfl rfl rfl ?_
 refine WT.pureOff 53 rfl rfl rfl rfl rfl ?_
 refine Tp (.bool false) rfl (PO.pickF rfl rfl rfl) rfl ?_
 refine Tp (.bool false) rfl (PO.assign rfl) rfl ?_
 refine WT.fin ?_
 obtain rfl := Option.some.inj h
 refine WQ.thenJ ?_
 exact ⟨(hle54.trans hle59), rfl, rfl⟩
 exact WT.no
 exact WT.no
 exact WT.no
 exact WT.no
 rintro ρ50 M50 H50 ⟨hle50, rfl, hs50_4⟩
 have h1_14 := h1_14.mono hle50
 have h1_15 := h1_15.mono hle50
 have h1_16 := h1_16.mono hle50
 have h1_17 := h1_17.mono hle50
 have h0_14 := h0_14.mono hle50
 have h0_15 := h0_15.mono hle50
 have h0_16 := h0_16.mono hle50
 have h0_17 := h0_17.mono hle50
 refine WC.ret ?_
 refine WQ.drop ?_
 refine WQ.drop ?_
 exact WQ.returnsF h [] rfl (results1 rfl hs50_4) (hle24.trans hle50) ⟨rfl, rfl⟩

noncomputable def f_slices_EqualFunc_api_Record_api_Record_api_Record_api_Record_76_l0 (a0 : (List T_api_Record)) (a1 : (List T_api_Record)) (s_ : Int) : Option (Int ⊕ (Unit ⊕ Unit)) :=
  match s_ with
  | x24 =>
    (if (decide (x24 < (a0.length : Int))) = true then (grd (0 ≤ x24 ∧ x24 < a0.length) (grd (0 ≤ x24 ∧ x24 < a1.length) ((f_record_Same (rd a0 x24) (rd a1 x24)).bind fun (r42 : Bool) => (if (!r42) = true then (some (Sum.inr (Sum.inr ()))) else (some (Sum.inl (IntKind.i64.wrap (x24 + (1 : Int))))))))) else (some (Sum.inr (Sum.inl ()))))
noncomputable def f_slices_EqualFunc_api_Record_api_Record_api_Record_api_Record_76 (a0 : (List T_api_Record)) (a1 : (List T_api_Record)) : Option Bool :=
  (if (decide ((a0.length : Int) ≠ (a1.length : Int))) = true then (some false) else ((((iter (f_slices_EqualFunc_api_Record_api_Record_api_Record_api_Record_76_l0 a0 a1) (0 : Int)).bind (Sum.elim (fun _ => (some (Sum.inl ()))) (fun _ => (((some false)).bind fun r => some (Sum.inr r))))) : Option (Unit ⊕ Bool)).bind (Sum.elim (fun _ => (some true)) some)))
def f_slices_EqualFunc_api_Record_api_Record_api_Record_api_Record_76_post (a0 : (List T_api_Record)) (a1 : (List T_api_Record)) (v0 v1 : Value) : Bool → Value → IM → HL → Prop :=
  fun (r0 : Bool) (v : Value) (M' : IM) (H' : HL) => (.bool r0) = v ∧ H' = []
theorem f_slices_EqualFunc_api_Record_api_Record_api_Record_api_Record_76_ok (a0 : (List T_api_Record)) (a1 : (List T_api_Record)) (M : IM) (v0 v1 : Value) (h0 : RS kd_api_Record M v0 a0) (h1 : RS kd_api_Record M v1 a1) (res : Bool) (h : f_slices_EqualFunc_api_Record_api_Record_api_Record_api_Record_76 a0 a1 = some res) :
    Tri Tryd.prog 75 #[v0, v1, (.func (.func 76) #[] #[])] M [] (f_slices_EqualFunc_api_Record_api_Record_api_Record_api_Record_76_post a0 a1 v0 v1 res) := by
 unfold f_slices_EqualFunc_api_Record_api_Record_api_Record_api_Record_76 at h
 refine Tri.enter (fn := Tryd.f75) Tryd.func75 rfl (Nat.le_of_ble_eq_true rfl) ?_
 intro F ρ hρ
 refine Sr ?_
 refine Pa (.bool false) rfl rfl ?_
 refine Nt ?_
 refine WC.seq ?_
 refine Sr ?_
 refine Pm v0 (hρ 0) rfl ?_
 refine Pu (.int .i64 (a0.length : Int)) (PO.lenS Tryd.underlying64 rfl h0.len) rfl ?_
 refine Pm v1 (hρ 1) rfl ?_
 refine Pu (.int .i64 (a1.length : Int)) (PO.lenS Tryd.underlying64 rfl h1.len) rfl ?_
 refine Pu (.bool (decide ((a0.length : Int) ≠ (a1.length : Int)))) (PO.neq rfl rfl) rfl ?_
 refine Nt ?_
 refine WC.cond (b := decide ((a0.length : Int) ≠ (a1.length : Int))) rfl (fun hb21 => ?_) (fun hb21 => ?_)
 have h := ite_t hb21 h
 refine Sr ?_
 refine Pa (.bool false) rfl rfl ?_
 refine Nt ?_
 refine WC.ret ?_
 refine WQ.thenR ?_
 exact WQ.returnsF h [] rfl (results1 rfl rfl) (IM.le.refl _) ⟨rfl, rfl⟩
 have h := ite_f hb21 h
 refine WC.skip ?_
 refine WQ.thenC ?_
 obtain ⟨j22, hj22, h⟩ := bnd h
 refine WC.joinE (fun (_ : Unit) ρ' M' H' => M.le M' ∧ F = H') j22 ?_ ?_
 have h322 := h
 have h := hj22
 refine Sr ?_
 refine Pm v0 (hρ 0) rfl ?_
 refine Pu (.int .i64 (a0.length : Int)) (PO.lenS Tryd.underlying64 rfl h0.len) rfl ?_
 refine Pm (.int .i64 0) rfl rfl ?_
 refine Nt ?_
 refine WC.block ?_
 obtain ⟨e23, he23, hK23⟩ := bnd h
 clear h
 refine WC.loop he23 (fun (x24 : Int) ρ' M' H' => M.le M' ∧ F = H' ∧ ρ' 1 = v1 ∧ ρ' 2 = (.func (.func 76) #[] #[]) ∧ ρ' 15 = v0 ∧ ρ' 16 = (.int .i64 (a0.length : Int)) ∧ ρ' 17 = (.int .i64 x24)) ?_ ?_
 exact ⟨(IM.le.refl _), rfl, (hρ 1), (hρ 2), rfl, rfl, rfl⟩
 rintro x24 o23 ρ23 M23 H23 h ⟨hle23, rfl, hs23_1, hs23_2, hs23_15, hs23_16, hs23_17⟩
 unfold f_slices_EqualFunc_api_Record_api_Record_api_Record_api_Record_76_l0 at h
 have h1 := h1.mono hle23
 have h0 := h0.mono hle23
 refine Sr ?_
 refine Pu (.bool (decide (x24 < (a0.length : Int)))) (PO.lss hs23_17 hs23_16) rfl ?_
 refine Nt ?_
 refine WC.seq ?_
 refine WC.cond (b := decide (x24 < (a0.length : Int))) rfl (fun hb25 => ?_) (fun hb25 => ?_)
 have h := ite_t hb25 h
 refine WC.skip ?_
 refine WQ.thenC ?_
 refine WC.seq ?_
 refine WC.block ?_
 refine Sr ?_
 refine Pm (.int .i64 x24) hs23_17 rfl ?_
 obtain ⟨hg26, h⟩ := grd_i h
 obtain ⟨p27, cs28, hat29, hrc30, hhas31⟩ := h0.at hg26.1 hg26.2 (by decide)
 obtain ⟨vw32_14, vw32_15, vw32_16, vw32_17, rfl, hw32_14, hw32_15, hw32_16, hw32_17⟩ := kd_api_Record_open hrc30
 refine Pu (.pointer (some p27)) (PO.indexAddr (n := a0.length) Tryd.underlying64 sz106 hs23_15 hs23_17 hg26.1 hg26.2 hat29) rfl ?_
 refine Pu (a106_ (rd a0 x24) vw32_14 vw32_15 vw32_16 vw32_17) (PO.loadMA (cs := (l106 (rd a0 x24) vw32_14 vw32_15 vw32_16 vw32_17)) ag106 sz106 rfl hhas31) rfl ?_
 refine WL.eff (EO.alloc ze106 rfl) rfl ?_
 rintro _ _ _ - ⟨rfl, g33, rfl, rfl⟩
 refine Pa (.int .i64 x24) rfl rfl ?_
 refine WL.eff (EO.storeL (v := (a106_ (rd a0 x24) vw32_14 vw32_15 vw32_16 vw32_17)) (vl := (l106 (rd a0 x24) vw32_14 vw32_15 vw32_16 vw32_17)) (arr' := (l106 (rd a0 x24) vw32_14 vw32_15 vw32_16 vw32_17)) rfl sz106 rfl rfl (onesOf (Ones.cons rfl (Ones.cons rfl (Ones.cons rfl (Ones.cons rfl (Ones.cons rfl (Ones.cons rfl (Ones.cons rfl (Ones.cons rfl (Ones.cons rfl (Ones.cons rfl (Ones.cons rfl (Ones.cons rfl (Ones.cons rfl (Ones.cons rfl (Ones.cons (RS.one hw32_14) (Ones.cons (RS.one hw32_15) (Ones.cons (RS.one hw32_16) (Ones.cons (RS.one hw32_17) Ones.nil))))))))))))))))))) rfl rfl (by kernel_rfl)) rfl ?_
 rintro _ _ _ - ⟨rfl, rfl⟩
 refine Ns ?_
 refine Pm v1 hs23_1 rfl ?_
 refine Pm (.int .i64 x24) rfl rfl ?_
 obtain ⟨hg34, h⟩ := grd_i h
 obtain ⟨p35, cs36, hat37, hrc38, hhas39⟩ := h1.at hg34.1 hg34.2 (by decide)
 obtain ⟨vw40_14, vw40_15, vw40_16, vw40_17, rfl, hw40_14, hw40_15, hw40_16, hw40_17⟩ := kd_api_Record_open hrc38
 refine Pu (.pointer (some p35)) (PO.indexAddr (n := a1.length) Tryd.underlying64 sz106 rfl rfl hg34.1 hg34.2 hat37) rfl ?_
 refine Pu (a106_ (rd a1 x24) vw40_14 vw40_15 vw40_16 vw40_17) (PO.loadMA (cs := (l106 (rd a1 x24) vw40_14 vw40_15 vw40_16 vw40_17)) ag106 sz106 rfl hhas39) rfl ?_
 refine WL.eff (EO.alloc ze106 rfl) rfl ?_
 rintro _ _ _ - ⟨rfl, g41, rfl, rfl⟩
 refine WL.eff (EO.storeL (v := (a106_ (rd a1 x24) vw40_14 vw40_15 vw40_16 vw40_17)) (vl := (l106 (rd a1 x24) vw40_14 vw40_15 vw40_16 vw40_17)) (arr' := (l106 (rd a1 x24) vw40_14 vw40_15 vw40_16 vw40_17)) rfl sz106 rfl rfl (onesOf (Ones.cons rfl (Ones.cons rfl (Ones.cons rfl (Ones.cons rfl (Ones.cons rfl (Ones.cons rfl (Ones.cons rfl (Ones.cons rfl (Ones.cons rfl (Ones.cons rfl (Ones.cons rfl (Ones.cons rfl (Ones.cons rfl (Ones.cons rfl (Ones.cons (RS.one hw40_14) (Ones.cons (RS.one hw40_15) (Ones.cons (RS.one hw40_16) (Ones.cons (RS.one hw40_17) Ones.nil))))))))))))))))))) rfl rfl (by kernel_rfl)) rfl ?_
 rintro _ _ _ - ⟨rfl, rfl⟩
 refine Ns ?_
 refine Pm (.func (.func 76) #[] #[]) hs23_2 rfl ?_
 refine Pu (a106_ (rd a0 x24) vw32_14 vw32_15 vw32_16 vw32_17) (PO.loadBA (cs := (l106 (rd a0 x24) vw32_14 vw32_15 vw32_16 vw32_17)) 1 ag106 sz106 rfl rfl rfl) rfl ?_
 refine Pu (a106_ (rd a1 x24) vw40_14 vw40_15 vw40_16 vw40_17) (PO.loadBA (cs := (l106 (rd a1 x24) vw40_14 vw40_15 vw40_16 vw40_17)) 0 ag106 sz106 rfl rfl rfl) rfl ?_
 obtain ⟨r42, hr43, h⟩ := bnd h
 refine WL.eff (EO.callV0 (first := #[]) (cap := #[]) co76 rfl (f_record_Same_ok (rd a0 x24) (rd a1 x24) _ _ _ _ _ _ _ _ _ hw32_14 hw32_15 hw32_16 hw32_17 hw40_14 hw40_15 hw40_16 hw40_17 r42 hr43) (argsV2 rfl rfl rfl)) rfl ?_
 rintro _ M44 _ hle45 ⟨_, ⟨rfl, rfl⟩, rfl⟩
 have h1 := h1.mono hle45
 have h0 := h0.mono hle45
 have hw32_14 := hw32_14.mono hle45
 have hw32_15 := hw32_15.mono hle45
 have hw32_16 := hw32_16.mono hle45
 have hw32_17 := hw32_17.mono hle45
 have hw40_14 := hw40_14.mono hle45
 have hw40_15 := hw40_15.mono hle45
 have hw40_16 := hw40_16.mono hle45
 have hw40_17 := hw40_17.mono hle45
 refine WL.a0 ?_
 refine Pu (.bool (!r42)) (PO.not rfl) rfl ?_
 refine Nt ?_
 refine WC.cond (b := !r42) rfl (fun hb47 => ?_) (fun hb47 => ?_)
 have h := ite_t hb47 h
 refine Sr ?_
 refine Pa (.bool false) rfl rfl ?_
 refine Nt ?_
 refine WC.ret ?_
 refine WQ.blockR ?_
 refine WQ.thenR ?_
 refine WQ.leaveR (Sum.inr ()) (Option.some.inj h).symm (fun heq23 => ?_)
 subst heq23
 have h := (elimR hK23)
 refine WQ.blockR ?_
 refine WQ.thenR ?_
 have h := KK.early h h322
 refine WQ.drop ?_
 refine WQ.drop ?_
 exact WQ.returnsF h [] rfl (results1 rfl rfl) (hle23.trans hle45) ⟨rfl, rfl⟩
 have h := ite_f hb47 h
 refine WC.skip ?_
 refine WQ.blockN ?_
 refine WQ.thenC ?_
 refine WC.region ?_
 refine Pu (.int .i64 (IntKind.i64.wrap (x24 + 1))) (PO.add hs23_17 rfl) rfl ?_
 refine Pm (.int .i64 (IntKind.i64.wrap (x24 + 1))) rfl rfl ?_
 refine WL.nil ?_
 refine WQ.drop ?_
 refine WQ.drop ?_
 refine WQ.again (IntKind.i64.wrap (x24 + 1)) (Option.some.inj h).symm ?_
 exact ⟨(hle23.trans hle45), rfl, hs23_1, hs23_2, hs23_15, hs23_16, rfl⟩
 have h := ite_f hb25 h
 refine WC.exit ?_
 refine WQ.thenE ?_
 refine WQ.leaveE (Sum.inl ()) (Option.some.inj h).symm (fun heq23 => ?_)
 subst heq23
 have h := elimL hK23
 refine WQ.blockH ?_
 refine WQ.thenFE h ?_
 exact ⟨hle23, rfl⟩
 rintro _ ρ22 M22 H22 rfl ⟨hle22, rfl⟩
 have h := (Sum.elim_inl _ _ _).symm.trans h
 refine Sr ?_
 refine Pa (.bool true) rfl rfl ?_
 refine Nt ?_
 refine WC.ret ?_
 exact WQ.returnsF h [] rfl (results1 rfl rfl) hle22 ⟨rfl, rfl⟩

noncomputable def f_batch_Same (a0 : T_api_Batch) (a1 : T_api_Batch) : Option Bool :=
  (((if (decide (a0.Term = a1.Term)) = true then (if (decide (a0.Base = a1.Base)) = true then ((f_slices_EqualFunc_api_Record_api_Record_api_Record_api_Record_76 a0.Records a1.Records).bind fun (r27 : Bool) => (some r27)) else (some false)) else (some false)) : Option Bool).bind fun (x23 : Bool) => (some x23))
def f_batch_Same_post (a0 : T_api_Batch) (a1 : T_api_Batch) (v0_2 v1_2 : Value) : Bool → Value → IM → HL → Prop :=
  fun (r0 : Bool) (v : Value) (M' : IM) (H' : HL) => (.bool r0) = v ∧ H' = []
theorem f_batch_Same_ok (a0 : T_api_Batch) (a1 : T_api_Batch) (M : IM) (v0_2 v1_2 : Value) (h0_2 : RS kd_api_Record M v0_2 a0.Records) (h1_2 : RS kd_api_Record M v1_2 a1.Records) (res : Bool) (h : f_batch_Same a0 a1 = some res) :
    Tri Tryd.prog 49 #[(a66_ a0 v0_2), (a66_ a1 v1_2)] M [] (f_batch_Same_post a0 a1 v0_2 v1_2 res) := by
 unfold f_batch_Same at h
 refine Tri.enter (fn := Tryd.f49) Tryd.func49 rfl (Nat.le_of_ble_eq_true rfl) ?_
 intro F ρ hρ
 refine Sr ?_
 refine WL.eff (EO.box (cs := (l66 a0 v0_2).toArray) (congrArg Value.cells (asE (a66_ a0 v0_2) (hρ 0)))) rfl ?_
 rintro _ _ _ - ⟨rfl, g21, rfl, rfl⟩
 refine WL.eff (EO.box (cs := (l66 a1 v1_2).toArray) (congrArg Value.cells (asE (a66_ a1 v1_2) (hρ 1)))) rfl ?_
 rintro _ _ _ - ⟨rfl, g22, rfl, rfl⟩
 refine Pa (.bool false) rfl rfl ?_
 refine Nt ?_
 obtain ⟨x23, hj24, h⟩ := bnd h
 refine WC.joinF (fun (x23 : Bool) ρ' M' H' => M.le M' ∧ [(g22, .cells (l66 a1 v1_2).toArray 66 (0, 0))] :: [(g21, .cells (l66 a0 v0_2).toArray 66 (0, 0))] :: F = H' ∧ ρ' 4 = (.bool x23)) x23 ?_ ?_
 have h324 := h
 have h := hj24
 refine WC.region ?_
 refine Pu (pt g21 0) (PO.fieldAddr fo66_0 rfl rfl) rfl ?_
 refine Pu (.int .i64 a0.Term) (PO.loadB 1 pl3 rfl rfl rfl) rfl ?_
 refine Pu (pt g22 0) (PO.fieldAddr fo66_0 rfl rfl) rfl ?_
 refine Pu (.int .i64 a1.Term) (PO.loadB 0 pl3 rfl rfl rfl) rfl ?_
 refine Pu (.bool (decide (a0.Term = a1.Term))) (PO.eql rfl rfl) rfl ?_
 refine Pm (.bool (decide (a0.Term = a1.Term))) rfl rfl ?_
 rcases Bool.eq_false_or_eq_true (decide (a0.Term = a1.Term)) with hb25 | hb25
 have h := ite_t hb25 h
 refine On 10 rfl rfl hb25 ?_
 refine Pu (pt g21 1) (PO.fieldAddr fo66_1 rfl rfl) rfl ?_
 refine On 10 rfl rfl hb25 ?_
 refine Pu (.int .i64 a0.Base) (PO.loadB 1 pl3 rfl rfl rfl) rfl ?_
 refine On 10 rfl rfl hb25 ?_
 refine Pu (pt g22 1) (PO.fieldAddr fo66_1 rfl rfl) rfl ?_
 refine On 10 rfl rfl hb25 ?_
 refine Pu (.int .i64 a1.Base) (PO.loadB 0 pl3 rfl rfl rfl) rfl ?_
 refine On 10 rfl rfl hb25 ?_
 refine Pu (.bool (decide (a0.Base = a1.Base))) (PO.eql rfl rfl) rfl ?_
 refine Pu (.bool (decide (a0.Base = a1.Base))) (PO.pickT rfl hb25 rfl) rfl ?_
 refine Pm (.bool (decide (a0.Base = a1.Base))) rfl rfl ?_
 rcases Bool.eq_false_or_eq_true (decide (a0.Base = a1.Base)) with hb26 | hb26
 have h := ite_t hb26 h
 refine On 17 rfl rfl hb26 ?_
 refine Pu (pt g21 2) (PO.fieldAddr fo66_2 rfl rfl) rfl ?_
 refine On 17 rfl rfl hb26 ?_
 refine Pu v0_2 (PO.loadB 1 pl64 rfl rfl rfl) rfl ?_
 refine On 17 rfl rfl hb26 ?_
 refine Pu (pt g22 2) (PO.fieldAddr fo66_2 rfl rfl) rfl ?_
 refine On 17 rfl rfl hb26 ?_
 refine Pu v1_2 (PO.loadB 0 pl64 rfl rfl rfl) rfl ?_
 refine On 17 rfl rfl hb26 ?_
 obtain ⟨r27, hr28, h⟩ := bnd h
 refine WL.eff (EO.call0 co75 (f_slices_EqualFunc_api_Record_api_Record_api_Record_api_Record_76_ok a0.Records a1.Records _ _ _ h0_2 h1_2 r27 hr28) (args3 rfl rfl rfl)) rfl ?_
 rintro _ M29 _ hle30 ⟨_, ⟨rfl, rfl⟩, rfl⟩
 have h0_2 := h0_2.mono hle30
 have h1_2 := h1_2.mono hle30
 refine WL.a0 ?_
 refine Pu (.bool r27) (PO.pickT rfl hb26 rfl) rfl ?_
 refine Pa (.bool r27) rfl rfl ?_
 refine WL.nil ?_
 obtain rfl := Option.some.inj h
 refine WQ.thenJ ?_
 exact ⟨hle30, rfl, rfl⟩
 have h := ite_f hb26 h
 iterate 5 refine Of 17 rfl rfl hb26 rfl ?_
 refine Pu (.bool false) (PO.pickF rfl hb26 rfl) rfl ?_
 refine Pa (.bool false) rfl rfl ?_
 refine WL.nil ?_
 obtain rfl := Option.some.inj h
 refine WQ.thenJ ?_
 exact ⟨(IM.le.refl _), rfl, rfl⟩
 have h := ite_f hb25 h
 iterate 5 refine Of 10 rfl rfl hb25 rfl ?_
 refine Pu (.bool false) (PO.pickF rfl hb25 rfl) rfl ?_
 refine Pm (.bool false) rfl rfl ?_
 iterate 5 refine Of 17 rfl rfl rfl rfl ?_
 refine Pu (.bool false) (PO.pickF rfl rfl rfl) rfl ?_
 refine Pa (.bool false) rfl rfl ?_
 refine WL.nil ?_
 obtain rfl := Option.some.inj h
 refine WQ.thenJ ?_
 exact ⟨(IM.le.refl _), rfl, rfl⟩
 rintro ρ24 M24 H24 ⟨hle24, rfl, hs24_4⟩
 have h1_2 := h1_2.mono hle24
 have h0_2 := h0_2.mono hle24
 refine WC.ret ?_
 refine WQ.drop ?_
 refine WQ.drop ?_
 exact WQ.returnsF h [] rfl (results1 rfl hs24_4) hle24 ⟨rfl, rfl⟩

noncomputable def f_errors_is_l0 (a1 : Int) (s_ : GErr) : Option (GErr ⊕ Bool) :=
  match s_ with
  | x22 =>
    (match x22 with | .nil => (some (Sum.inr false)) | .code n24 => (if (decide (n24 = a1)) = true then (some (Sum.inr true)) else (some (Sum.inr false))) | .fault o25 a26 e27 => ((f_api_Fault_Unwrap (⟨o25, a26, e27⟩ : T_api_Fault)).bind fun (r30 : GErr) => (if r30.isNil = true then (some (Sum.inr false)) else (some (Sum.inl r30)))) | .other b28 => (some (Sum.inr false)))
noncomputable def f_errors_is (a0 : GErr) (a1 : Int) : Option Bool :=
  ((iter (f_errors_is_l0 a1) a0).bind (fun (x23 : Bool) => (some x23)))
def f_errors_is_post (a0 : GErr) (a1 : Int) : Bool → Value → IM → HL → Prop :=
  fun (r0 : Bool) (v : Value) (M' : IM) (H' : HL) => (.bool r0) = v ∧ H' = []
theorem f_errors_is_ok (a0 : GErr) (a1 : Int) (M : IM) (res : Bool) (h : f_errors_is a0 a1 = some res) :
    Tri Tryd.prog 90 #[(GV a0), (GV (GErr.code a1)), (.bool true)] M [] (f_errors_is_post a0 a1 res) := by
 unfold f_errors_is at h
 refine Tri.enter (fn := Tryd.f90) Tryd.func90 rfl (Nat.le_of_ble_eq_true rfl) ?_
 intro F ρ hρ
 refine Sr ?_
 refine Pa (.bool false) rfl rfl ?_
 refine Nt ?_
 refine WC.block ?_
 obtain ⟨e21, he21, hK21⟩ := bnd h
 clear h
 refine WC.loop he21 (fun (x22 : GErr) ρ' M' H' => M.le M' ∧ F = H' ∧ ρ' 0 = (GV x22) ∧ ρ' 1 = (GV (GErr.code a1)) ∧ ρ' 2 = (.bool true)) ?_ ?_
 exact ⟨(IM.le.refl _), rfl, (hρ 0), (hρ 1), (hρ 2)⟩
 rintro x22 o21 ρ21 M21 H21 h ⟨hle21, rfl, hs21_0, hs21_1, hs21_2⟩
 unfold f_errors_is_l0 at h
 refine WC.block ?_
 refine WC.seq ?_
 refine Sr ?_
 refine Pm (.bool true) hs21_2 rfl ?_
 refine Pm (.bool true) rfl rfl ?_
 refine On 15 rfl rfl rfl ?_
 refine Pm (GV x22) hs21_0 rfl ?_
 refine On 15 rfl rfl rfl ?_
 refine Pm (GV (GErr.code a1)) hs21_1 rfl ?_
 refine On 15 rfl rfl rfl ?_
 rcases x22 with _ | n24 | ⟨o25, a26, e27⟩ | b28
 refine Pu (.bool false) (PO.nilIfaceNe Tryd.underlying28 (show ev _ _ = .nilIface from rfl) (show ev _ _ = (.iface 47 (.int .i64 a1)) from rfl)) rfl ?_
 refine Pu (.bool false) (PO.pickT rfl rfl rfl) rfl ?_
 refine Nt ?_
 refine WC.condF (b := false) rfl rfl ?_
 refine WC.skip ?_
 refine WQ.thenC ?_
 refine WC.seq ?_
 refine Sr ?_
 refine Pm (GV GErr.nil) hs21_0 rfl ?_
 refine Pu (.tuple #[.nilIface, (.bool false)]) (PO.asserts (show ev _ _ = .nilIface from rfl) (run_assert_nil zo188 Tryd.underlying188)) rfl ?_
 refine Pm (.tuple #[.nilIface, (.bool false)]) rfl rfl ?_
 refine Pu .nilIface (PO.extract rfl rfl) rfl ?_
 refine Pu (.bool false) (PO.extract rfl rfl) rfl ?_
 refine Pa .nilIface rfl rfl ?_
 refine Pa (.bool false) rfl rfl ?_
 refine Ns ?_
 refine Pm (.bool false) rfl rfl ?_
 refine Pm (.bool false) rfl rfl ?_
 iterate 3 refine Of 26 rfl rfl rfl rfl ?_
 refine Pu (.bool false) (PO.pickF rfl rfl rfl) rfl ?_
 refine Nt ?_
 refine WC.condF (b := false) rfl rfl ?_
 refine WC.skip ?_
 refine WQ.thenC ?_
 refine Sr ?_
 refine Pm (GV GErr.nil) hs21_0 rfl ?_
 refine Nt ?_
 refine WC.block ?_
 refine Sr ?_
 refine Pu (.tuple #[.nilIface, (.bool false)]) (PO.asserts (show ev _ _ = .nilIface from rfl) (run_assert_nil zo170 Tryd.underlying170)) rfl ?_
 refine Pu (.bool false) (PO.extract rfl rfl) rfl ?_
 refine Pu .nilIface (PO.extract rfl rfl) rfl ?_
 refine Nt ?_
 refine WC.condF (b := false) rfl rfl ?_
 refine Sr ?_
 refine Pu (.tuple #[.nilIface, (.bool false)]) (PO.asserts (show ev _ _ = .nilIface from rfl) (run_assert_nil zo171 Tryd.underlying171)) rfl ?_
 refine Pu (.bool false) (PO.extract rfl rfl) rfl ?_
 refine Pu .nilIface (PO.extract rfl rfl) rfl ?_
 refine Nt ?_
 refine WC.condF (b := false) rfl rfl ?_
 refine Sr ?_
 refine Pa (GV GErr.nil) rfl rfl ?_
 refine Ns ?_
 refine Pa (.bool false) rfl rfl ?_
 refine Nt ?_
 refine WC.ret ?_
 refine WQ.blockR ?_
 refine WQ.blockR ?_
 refine WQ.leaveR false (Option.some.inj h).symm (fun heq21 => ?_)
 subst heq21
 have h := hK21
 refine WQ.blockR ?_
 exact WQ.returnsF h [] rfl (results1 rfl rfl) hle21 ⟨rfl, rfl⟩
 refine Pu (.bool (decide (n24 = a1))) (PO.ifaceInt Tryd.underlying28 Tryd.underlying47 cm47 (show ev _ _ = (.iface 47 (.int .i64 n24)) from rfl) (show ev _ _ = (.iface 47 (.int .i64 a1)) from rfl)) rfl ?_
 refine Pu (.bool (decide (n24 = a1))) (PO.pickT rfl rfl rfl) rfl ?_
 refine Nt ?_
 refine WC.cond (b := decide (n24 = a1)) rfl (fun hb29 => ?_) (fun hb29 => ?_)
 have h := ite_t hb29 h
 refine Sr ?_
 refine Pa (.bool true) rfl rfl ?_
 refine Nt ?_
 refine WC.ret ?_
 refine WQ.thenR ?_
 refine WQ.blockR ?_
 refine WQ.leaveR true (Option.some.inj h).symm (fun heq21 => ?_)
 subst heq21
 have h := hK21
 refine WQ.blockR ?_
 exact WQ.returnsF h [] rfl (results1 rfl rfl) hle21 ⟨rfl, rfl⟩
 have h := ite_f hb29 h
 refine WC.skip ?_
 refine WQ.thenC ?_
 refine WC.seq ?_
 refine Sr ?_
 refine Pm (GV (GErr.code n24)) hs21_0 rfl ?_
 refine Pu (.tuple #[.nilIface, (.bool false)]) (PO.asserts (show ev _ _ = (.iface 47 (.int .i64 n24)) from rfl) (la47_188 _ _)) rfl ?_
 refine Pm (.tuple #[.nilIface, (.bool false)]) rfl rfl ?_
 refine Pu .nilIface (PO.extract rfl rfl) rfl ?_
 refine Pu (.bool false) (PO.extract rfl rfl) rfl ?_
 refine Pa .nilIface rfl rfl ?_
 refine Pa (.bool false) rfl rfl ?_
 refine Ns ?_
 refine Pm (.bool false) rfl rfl ?_
 refine Pm (.bool false) rfl rfl ?_
 iterate 3 refine Of 26 rfl rfl rfl rfl ?_
 refine Pu (.bool false) (PO.pickF rfl rfl rfl) rfl ?_
 refine Nt ?_
 refine WC.condF (b := false) rfl rfl ?_
 refine WC.skip ?_
 refine WQ.thenC ?_
 refine Sr ?_
 refine Pm (GV (GErr.code n24)) hs21_0 rfl ?_
 refine Nt ?_
 refine WC.block ?_
 refine Sr ?_
 refine Pu (.tuple #[.nilIface, (.bool false)]) (PO.asserts (show ev _ _ = (.iface 47 (.int .i64 n24)) from rfl) (la47_170 _ _)) rfl ?_
 refine Pu (.bool false) (PO.extract rfl rfl) rfl ?_
 refine Pu .nilIface (PO.extract rfl rfl) rfl ?_
 refine Nt ?_
 refine WC.condF (b := false) rfl rfl ?_
 refine Sr ?_
 refine Pu (.tuple #[.nilIface, (.bool false)]) (PO.asserts (show ev _ _ = (.iface 47 (.int .i64 n24)) from rfl) (la47_171 _ _)) rfl ?_
 refine Pu (.bool false) (PO.extract rfl rfl) rfl ?_
 refine Pu .nilIface (PO.extract rfl rfl) rfl ?_
 refine Nt ?_
 refine WC.condF (b := false) rfl rfl ?_
 refine Sr ?_
 refine Pa (GV (GErr.code n24)) rfl rfl ?_
 refine Ns ?_
 refine Pa (.bool false) rfl rfl ?_
 refine Nt ?_
 refine WC.ret ?_
 refine WQ.blockR ?_
 refine WQ.blockR ?_
 refine WQ.leaveR false (Option.some.inj h).symm (fun heq21 => ?_)
 subst heq21
 have h := hK21
 refine WQ.blockR ?_
 exact WQ.returnsF h [] rfl (results1 rfl rfl) hle21 ⟨rfl, rfl⟩
 refine Pu (.bool false) (PO.ifaceNe Tryd.underlying28 (show ev _ _ = (.iface 89 (.agg #[.string o25, .int .i64 a26, GV e27])) from rfl) (show ev _ _ = (.iface 47 (.int .i64 a1)) from rfl) rfl) rfl ?_
 refine Pu (.bool false) (PO.pickT rfl rfl rfl) rfl ?_
 refine Nt ?_
 refine WC.condF (b := false) rfl rfl ?_
 refine WC.skip ?_
 refine WQ.thenC ?_
 refine WC.seq ?_
 refine Sr ?_
 refine Pm (GV (GErr.fault o25 a26 e27)) hs21_0 rfl ?_
 refine Pu (.tuple #[.nilIface, (.bool false)]) (PO.asserts (show ev _ _ = (.iface 89 (.agg #[.string o25, .int .i64 a26, GV e27])) from rfl) (la89_188 _ _)) rfl ?_
 refine Pm (.tuple #[.nilIface, (.bool false)]) rfl rfl ?_
 refine Pu .nilIface (PO.extract rfl rfl) rfl ?_
 refine Pu (.bool false) (PO.extract rfl rfl) rfl ?_
 refine Pa .nilIface rfl rfl ?_
 refine Pa (.bool false) rfl rfl ?_
 refine Ns ?_
 refine Pm (.bool false) rfl rfl ?_
 refine Pm (.bool false) rfl rfl ?_
 iterate 3 refine Of 26 rfl rfl rfl rfl ?_
 refine Pu (.bool false) (PO.pickF rfl rfl rfl) rfl ?_
 refine Nt ?_
 refine WC.condF (b := false) rfl rfl ?_
 refine WC.skip ?_
 refine WQ.thenC ?_
 refine Sr ?_
 refine Pm (GV (GErr.fault o25 a26 e27)) hs21_0 rfl ?_
 refine Nt ?_
 refine WC.block ?_
 refine Sr ?_
 refine Pu (.tuple #[(GV (GErr.fault o25 a26 e27)), (.bool true)]) (PO.asserts (show ev _ _ = (.iface 89 (.agg #[.string o25, .int .i64 a26, GV e27])) from rfl) (ha89_170 _ _)) rfl ?_
 refine Pu (.bool true) (PO.extract rfl rfl) rfl ?_
 refine Pu (GV (GErr.fault o25 a26 e27)) (PO.extract rfl rfl) rfl ?_
 refine Nt ?_
 refine WC.condT (b := true) rfl rfl ?_
 refine Sr ?_
 refine Pa (GV (GErr.fault o25 a26 e27)) rfl rfl ?_
 refine Ns ?_
 refine Pm (GV (GErr.fault o25 a26 e27)) rfl rfl ?_
 obtain ⟨r30, hr31, h⟩ := bnd h
 refine WL.eff (EO.invT (show ev _ _ = (.iface 89 (.agg #[.string o25, .int .i64 a26, GV e27])) from rfl) (me89_Unwrap _) co139 inv0 (f_api_Fault_Unwrap_ok (⟨o25, a26, e27⟩ : T_api_Fault) _ r30 hr31)) rfl ?_
 rintro _ M32 _ hle33 ⟨_, ⟨rfl, rfl⟩, rfl⟩
 refine WL.a0 ?_
 refine Pa (GV r30) rfl rfl ?_
 refine Ns ?_
 refine Pm (GV r30) rfl rfl ?_
 refine Pu (.bool r30.isNil) (PO.errNil Tryd.underlying28 rfl) rfl ?_
 refine Nt ?_
 refine WC.cond (b := r30.isNil) rfl (fun hb35 => ?_) (fun hb35 => ?_)
 have h := ite_t hb35 h
 refine Sr ?_
 refine Pa (.bool false) rfl rfl ?_
 refine Nt ?_
 refine WC.ret ?_
 refine WQ.blockR ?_
 refine WQ.blockR ?_
 refine WQ.leaveR false (Option.some.inj h).symm (fun heq21 => ?_)
 subst heq21
 have h := hK21
 refine WQ.blockR ?_
 exact WQ.returnsF h [] rfl (results1 rfl rfl) (hle21.trans hle33) ⟨rfl, rfl⟩
 have h := ite_f hb35 h
 refine WC.skip ?_
 refine WQ.blockN ?_
 refine WQ.blockN ?_
 refine WQ.again r30 (Option.some.inj h).symm ?_
 exact ⟨(hle21.trans hle33), rfl, rfl, hs21_1, hs21_2⟩
 refine Pu (.bool false) (PO.ifaceNe Tryd.underlying28 (show ev _ _ = (.iface 0 (.pointer (some b28))) from rfl) (show ev _ _ = (.iface 47 (.int .i64 a1)) from rfl) rfl) rfl ?_
 refine Pu (.bool false) (PO.pickT rfl rfl rfl) rfl ?_
 refine Nt ?_
 refine WC.condF (b := false) rfl rfl ?_
 refine WC.skip ?_
 refine WQ.thenC ?_
 refine WC.seq ?_
 refine Sr ?_
 refine Pm (GV (GErr.other b28)) hs21_0 rfl ?_
 refine Pu (.tuple #[.nilIface, (.bool false)]) (PO.asserts (show ev _ _ = (.iface 0 (.pointer (some b28))) from rfl) (la0_188 _ _)) rfl ?_
 refine Pm (.tuple #[.nilIface, (.bool false)]) rfl rfl ?_
 refine Pu .nilIface (PO.extract rfl rfl) rfl ?_
 refine Pu (.bool false) (PO.extract rfl rfl) rfl ?_
 refine Pa .nilIface rfl rfl ?_
 refine Pa (.bool false) rfl rfl ?_
 refine Ns ?_
 refine Pm (.bool false) rfl rfl ?_
 refine Pm (.bool false) rfl rfl ?_
 iterate 3 refine Of 26 rfl rfl rfl rfl ?_
 refine Pu (.bool false) (PO.pickF rfl rfl rfl) rfl ?_
 refine Nt ?_
 refine WC.condF (b := false) rfl rfl ?_
 refine WC.skip ?_
 refine WQ.thenC ?_
 refine Sr ?_
 refine Pm (GV (GErr.other b28)) hs21_0 rfl ?_
 refine Nt ?_
 refine WC.block ?_
 refine Sr ?_
 refine Pu (.tuple #[.nilIface, (.bool false)]) (PO.asserts (show ev _ _ = (.iface 0 (.pointer (some b28))) from rfl) (la0_170 _ _)) rfl ?_
 refine Pu (.bool false) (PO.extract rfl rfl) rfl ?_
 refine Pu .nilIface (PO.extract rfl rfl) rfl ?_
 refine Nt ?_
 refine WC.condF (b := false) rfl rfl ?_
 refine Sr ?_
 refine Pu (.tuple #[.nilIface, (.bool false)]) (PO.asserts (show ev _ _ = (.iface 0 (.pointer (some b28))) from rfl) (la0_171 _ _)) rfl ?_
 refine Pu (.bool false) (PO.extract rfl rfl) rfl ?_
 refine Pu .nilIface (PO.extract rfl rfl) rfl ?_
 refine Nt ?_
 refine WC.condF (b := false) rfl rfl ?_
 refine Sr ?_
 refine Pa (GV (GErr.other b28)) rfl rfl ?_
 refine Ns ?_
 refine Pa (.bool false) rfl rfl ?_
 refine Nt ?_
 refine WC.ret ?_
 refine WQ.blockR ?_
 refine WQ.blockR ?_
 refine WQ.leaveR false (Option.some.inj h).symm (fun heq21 => ?_)
 subst heq21
 have h := hK21
 refine WQ.blockR ?_
 exact WQ.returnsF h [] rfl (results1 rfl rfl) hle21 ⟨rfl, rfl⟩

noncomputable def f_errors_Is (a0 : GErr) (a1 : Int) : Option Bool :=
  (if a0.isNil = true then (match a0 with | .nil => (some false) | .code n22 => (some (decide (n22 = a1))) | .fault o23 a24 e25 => (some false) | .other b26 => (some false)) else ((f_errors_is a0 a1).bind fun (r27 : Bool) => (some r27)))
def f_errors_Is_post (a0 : GErr) (a1 : Int) : Bool → Value → IM → HL → Prop :=
  fun (r0 : Bool) (v : Value) (M' : IM) (H' : HL) => (.bool r0) = v ∧ H' = []
theorem f_errors_Is_ok (a0 : GErr) (a1 : Int) (M : IM) (res : Bool) (h : f_errors_Is a0 a1 = some res) :
    Tri Tryd.prog 58 #[(GV a0), (GV (GErr.code a1))] M [] (f_errors_Is_post a0 a1 res) := by
 unfold f_errors_Is at h
 refine Tri.enter (fn := Tryd.f58) Tryd.func58 rfl (Nat.le_of_ble_eq_true rfl) ?_
 intro F ρ hρ
 refine Sr ?_
 refine Pa (.bool false) rfl rfl ?_
 refine Nt ?_
 refine WC.seq ?_
 refine Sr ?_
 refine Pm (GV a0) (hρ 0) rfl ?_
 refine Pu (.bool a0.isNil) (PO.errNil Tryd.underlying28 rfl) rfl ?_
 refine Pm (.bool a0.isNil) rfl rfl ?_
 rcases Bool.eq_false_or_eq_true (a0.isNil) with hb21 | hb21
 have h := ite_t hb21 h
 iterate 2 refine Of 8 rfl rfl hb21 rfl ?_
 refine Pu (.bool true) (PO.pickT rfl hb21 rfl) rfl ?_
 refine Nt ?_
 refine WC.condT (b := true) rfl rfl ?_
 refine Sr ?_
 refine Pm (GV a0) (hρ 0) rfl ?_
 refine Pm (GV (GErr.code a1)) (hρ 1) rfl ?_
 rcases a0 with _ | n22 | ⟨o23, a24, e25⟩ | b26
 refine Pu (.bool false) (PO.nilIfaceNe Tryd.underlying28 (show ev _ _ = .nilIface from rfl) (show ev _ _ = (.iface 47 (.int .i64 a1)) from rfl)) rfl ?_
 refine Pa (.bool false) rfl rfl ?_
 refine Nt ?_
 refine WC.ret ?_
 refine WQ.thenR ?_
 exact WQ.returnsF h [] rfl (results1 rfl rfl) (IM.le.refl _) ⟨rfl, rfl⟩
 refine Pu (.bool (decide (n22 = a1))) (PO.ifaceInt Tryd.underlying28 Tryd.underlying47 cm47 (show ev _ _ = (.iface 47 (.int .i64 n22)) from rfl) (show ev _ _ = (.iface 47 (.int .i64 a1)) from rfl)) rfl ?_
 refine Pa (.bool (decide (n22 = a1))) rfl rfl ?_
 refine Nt ?_
 refine WC.ret ?_
 refine WQ.thenR ?_
 exact WQ.returnsF h [] rfl (results1 rfl rfl) (IM.le.refl _) ⟨rfl, rfl⟩
 refine Pu (.bool false) (PO.ifaceNe Tryd.underlying28 (show ev _ _ = (.iface 89 (.agg #[.string o23, .int .i64 a24, GV e25])) from rfl) (show ev _ _ = (.iface 47 (.int .i64 a1)) from rfl) rfl) rfl ?_
 refine Pa (.bool false) rfl rfl ?_
 refine Nt ?_
 refine WC.ret ?_
 refine WQ.thenR ?_
 exact WQ.returnsF h [] rfl (results1 rfl rfl) (IM.le.refl _) ⟨rfl, rfl⟩
 refine Pu (.bool false) (PO.ifaceNe Tryd.underlying28 (show ev _ _ = (.iface 0 (.pointer (some b26))) from rfl) (show ev _ _ = (.iface 47 (.int .i64 a1)) from rfl) rfl) rfl ?_
 refine Pa (.bool false) rfl rfl ?_
 refine Nt ?_
 refine WC.ret ?_
 refine WQ.thenR ?_
 exact WQ.returnsF h [] rfl (results1 rfl rfl) (IM.le.refl _) ⟨rfl, rfl⟩
 have h := ite_f hb21 h
 refine On 8 rfl rfl hb21 ?_
 refine Pm (GV (GErr.code a1)) (hρ 1) rfl ?_
 refine On 8 rfl rfl hb21 ?_
 refine Pu (.bool false) (PO.errNil (tc := 47) (tf := 89) (tp := 0) (e := GErr.code a1) Tryd.underlying28 rfl) rfl ?_
 refine Pu (.bool false) (PO.pickF rfl hb21 rfl) rfl ?_
 refine Nt ?_
 refine WC.condF (b := false) rfl rfl ?_
 refine WC.skip ?_
 refine WQ.thenC ?_
 refine Sr ?_
 refine Pm (GV (GErr.code a1)) (hρ 1) rfl ?_
 refine WL.eff (EO.extP xt89 (args1 (show ev _ _ = (.iface 47 (.int .i64 a1)) from rfl)) (ty47 _)) rfl ?_
 rintro _ _ _ - ⟨rfl, rfl, rfl⟩
 refine WL.eff (EO.invE (show ev _ _ = (.iface 163 (.agg #[.pointer (some ⟨1, 47, none⟩)])) from rfl) (mm_Comparable (pt 1 47)) xt145 inv0 mr_Comparable_47) rfl ?_
 rintro _ _ _ - ⟨rfl, rfl, rfl⟩
 refine Pa (.bool true) rfl rfl ?_
 refine Ns ?_
 refine Pm (GV a0) (hρ 0) rfl ?_
 refine Pm (GV (GErr.code a1)) (hρ 1) rfl ?_
 refine Pm (.bool true) rfl rfl ?_
 obtain ⟨r27, hr28, h⟩ := bnd h
 refine WL.eff (EO.call0 co90 (f_errors_is_ok a0 a1 _ r27 hr28) (args3 rfl rfl rfl)) rfl ?_
 rintro _ M29 _ hle30 ⟨_, ⟨rfl, rfl⟩, rfl⟩
 refine WL.a0 ?_
 refine Pa (.bool r27) rfl rfl ?_
 refine Nt ?_
 refine WC.ret ?_
 exact WQ.returnsF h [] rfl (results1 rfl rfl) hle30 ⟨rfl, rfl⟩

noncomputable def f_fault_Is (a0 : GErr) (a1 : Int) : Option Bool :=
  ((f_errors_Is a0 a1).bind fun (r21 : Bool) => (some r21))
def f_fault_Is_post (a0 : GErr) (a1 : Int) : Bool → Value → IM → HL → Prop :=
  fun (r0 : Bool) (v : Value) (M' : IM) (H' : HL) => (.bool r0) = v ∧ H' = []
theorem f_fault_Is_ok (a0 : GErr) (a1 : Int) (M : IM) (res : Bool) (h : f_fault_Is a0 a1 = some res) :
    Tri Tryd.prog 35 #[(GV a0), (.int .i64 a1)] M [] (f_fault_Is_post a0 a1 res) := by
 unfold f_fault_Is at h
 refine Tri.enter (fn := Tryd.f35) Tryd.func35 rfl (Nat.le_of_ble_eq_true rfl) ?_
 intro F ρ hρ
 refine Sr ?_
 refine Pa (.bool false) rfl rfl ?_
 refine Ns ?_
 refine Pm (GV a0) (hρ 0) rfl ?_
 refine Pm (.int .i64 a1) (hρ 1) rfl ?_
 refine Pu (GV (GErr.code a1)) (PO.makeInterface cc47 rfl) rfl ?_
 obtain ⟨r21, hr22, h⟩ := bnd h
 refine WL.eff (EO.call0 co58 (f_errors_Is_ok a0 a1 _ r21 hr22) (args2 rfl rfl)) rfl ?_
 rintro _ M23 _ hle24 ⟨_, ⟨rfl, rfl⟩, rfl⟩
 refine WL.a0 ?_
 refine Pa (.bool r21) rfl rfl ?_
 refine Nt ?_
 refine WC.ret ?_
 exact WQ.returnsF h [] rfl (results1 rfl rfl) hle24 ⟨rfl, rfl⟩

noncomputable def f_batch_Copy (a0 : T_api_Batch) : Option T_api_Batch :=
  ((f_batch_Of a0.Term a0.Base a0.Records).bind fun (r23 : T_api_Batch) => (some r23))
def f_batch_Copy_post (a0 : T_api_Batch) (v0_2 : Value) : T_api_Batch → Value → IM → HL → Prop :=
  fun (r0 : T_api_Batch) (v : Value) (M' : IM) (H' : HL) => ∃ vz0_2 cz0_2, (.agg #[(.int .i64 r0.Term), (.int .i64 r0.Base), vz0_2]) = v ∧ H' = [cz0_2] ∧ OwnS kd_api_Record M' vz0_2 r0.Records cz0_2
theorem f_batch_Copy_ok (a0 : T_api_Batch) (M : IM) (v0_2 : Value) (h0_2 : RS kd_api_Record M v0_2 a0.Records) (res : T_api_Batch) (h : f_batch_Copy a0 = some res) :
    Tri Tryd.prog 51 #[(a66_ a0 v0_2)] M [] (f_batch_Copy_post a0 v0_2 res) := by
 unfold f_batch_Copy at h
 refine Tri.enter (fn := Tryd.f51) Tryd.func51 rfl (Nat.le_of_ble_eq_true rfl) ?_
 intro F ρ hρ
 refine Sr ?_
 refine WL.eff (EO.box (cs := (l66 a0 v0_2).toArray) (congrArg Value.cells (asE (a66_ a0 v0_2) (hρ 0)))) rfl ?_
 rintro _ _ _ - ⟨rfl, g21, rfl, rfl⟩
 refine WL.eff (EO.alloc ze66 rfl) rfl ?_
 rintro _ _ _ - ⟨rfl, g22, rfl, rfl⟩
 refine Ns ?_
 refine Pu (pt g21 0) (PO.fieldAddr fo66_0 rfl rfl) rfl ?_
 refine Pu (.int .i64 a0.Term) (PO.loadB 1 pl3 rfl rfl rfl) rfl ?_
 refine Pu (pt g21 1) (PO.fieldAddr fo66_1 rfl rfl) rfl ?_
 refine Pu (.int .i64 a0.Base) (PO.loadB 1 pl3 rfl rfl rfl) rfl ?_
 refine Pu (pt g21 2) (PO.fieldAddr fo66_2 rfl rfl) rfl ?_
 refine Pu v0_2 (PO.loadB 1 pl64 rfl rfl rfl) rfl ?_
 obtain ⟨r23, hr24, h⟩ := bnd h
 refine WL.eff (EO.call0 co48 (f_batch_Of_ok a0.Term a0.Base a0.Records _ _ h0_2 r23 hr24) (args3 rfl rfl rfl)) rfl ?_
 rintro _ M25 _ hle26 ⟨_, ⟨vq27_2, cq27_2, rfl, rfl, hq27_2⟩, rfl⟩
 have h0_2 := h0_2.mono hle26
 refine WL.a1 ?_
 refine WL.f1 ?_
 refine WL.eff (EO.storeL (v := (a66_ r23 vq27_2)) (vl := (l66 r23 vq27_2)) (arr' := (l66 r23 vq27_2)) rfl sz66 rfl rfl (onesOf (Ones.cons rfl (Ones.cons rfl (Ones.cons (OwnS.one hq27_2) Ones.nil)))) rfl rfl rfl) rfl ?_
 rintro _ _ _ - ⟨rfl, rfl⟩
 refine Nt ?_
 refine WC.ret ?_
 refine WQ.f2 ?_
 refine WQ.drop ?_
 exact WQ.returnsD h [cq27_2] (fun _ hs => hs.drop) (resultsL1 rfl (RV.cellA (cs := (l66 r23 vq27_2)) 0 ag66 sz66 rfl rfl rfl)) hle26 ⟨vq27_2, cq27_2, rfl, rfl, hq27_2⟩


end Go.Proofs.YtjiffdgidodebaaDoor.G
