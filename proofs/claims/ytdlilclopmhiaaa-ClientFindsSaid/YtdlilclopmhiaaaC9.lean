/- Go functions: what they come to, and that they do. Printed by a program of the session (gen). -/
import Derived.Test.YtdlilclopmhiaaaCF
import Derived.Test.YtdlilclopmhiaaaC8
set_option linter.unusedVariables false
set_option linter.unusedSimpArgs false
namespace Go.Proofs.Ytdlilclopmhiaaa.G
open Go Go.KK

noncomputable def f_ask_Same (a0 : T_api_Request) (a1 : T_api_Request) : Option Bool :=
  ((((f_ask_Same_1 a0).bind fun (r25 : (List Int)) => ((f_ask_Same_1 a1).bind fun (r30 : (List Int)) => (if (andL [decide ((rd r25 (0 : Int)) = (rd r30 (0 : Int))), decide ((rd r25 (1 : Int)) = (rd r30 (1 : Int))), decide ((rd r25 (2 : Int)) = (rd r30 (2 : Int))), decide ((rd r25 (3 : Int)) = (rd r30 (3 : Int))), decide ((rd r25 (4 : Int)) = (rd r30 (4 : Int))), decide ((rd r25 (5 : Int)) = (rd r30 (5 : Int))), decide ((rd r25 (6 : Int)) = (rd r30 (6 : Int))), decide ((rd r25 (7 : Int)) = (rd r30 (7 : Int)))]) = true then ((f_ask_Same_2 a0).bind fun (r36 : (List ByteArray)) => ((f_ask_Same_2 a1).bind fun (r41 : (List ByteArray)) => (if (andL [(rd r36 (0 : Int)) == (rd r41 (0 : Int)), (rd r36 (1 : Int)) == (rd r41 (1 : Int)), (rd r36 (2 : Int)) == (rd r41 (2 : Int)), (rd r36 (3 : Int)) == (rd r41 (3 : Int))]) = true then (if (a0.Flag == a1.Flag) = true then (if (andL [decide (a0.Word.Broker = a1.Word.Broker), decide (a0.Word.Epoch = a1.Word.Epoch), decide (a0.Word.High = a1.Word.High), a0.Word.Fence == a1.Word.Fence, a0.Word.Leave == a1.Word.Leave]) = true then ((f_slices_Equal_int_int a0.Ids a1.Ids).bind fun (r49 : Bool) => (some r49)) else (some false)) else (some false)) else (some false)))) else (some false)))) : Option Bool).bind fun (x23 : Bool) => (some x23))
def f_ask_Same_post (a0 : T_api_Request) (a1 : T_api_Request) (v0_10 v1_10 : Value) : Bool → Value → IM → HL → Prop :=
  fun (r0 : Bool) (v : Value) (M' : IM) (H' : HL) => (.bool r0) = v ∧ H' = []
set_option maxHeartbeats 8000000 in
set_option maxRecDepth 100000 in
theorem f_ask_Same_ok (a0 : T_api_Request) (a1 : T_api_Request) (M : IM) (v0_10 v1_10 : Value) (h0_10 : RS (Kd.int .i64) M v0_10 a0.Ids) (h1_10 : RS (Kd.int .i64) M v1_10 a1.Ids) (res : Bool) (h : f_ask_Same a0 a1 = some res) :
    Tri Try.prog 32 #[(.agg #[(.int .i64 a0.Client), (.int .i64 a0.Serial), (.int .i64 a0.Kind), (.string a0.Name), (.string a0.Key), (.string a0.Value), (.bool a0.Flag), (.int .i64 a0.Parts), (.int .i64 a0.Replicas), (.int .i64 a0.Part), v0_10, (.int .i64 a0.Broker), (.int .i64 a0.Epoch), (.string a0.Rack), (.int .i64 a0.Word.Broker), (.int .i64 a0.Word.Epoch), (.int .i64 a0.Word.High), (.bool a0.Word.Fence), (.bool a0.Word.Leave)]), (.agg #[(.int .i64 a1.Client), (.int .i64 a1.Serial), (.int .i64 a1.Kind), (.string a1.Name), (.string a1.Key), (.string a1.Value), (.bool a1.Flag), (.int .i64 a1.Parts), (.int .i64 a1.Replicas), (.int .i64 a1.Part), v1_10, (.int .i64 a1.Broker), (.int .i64 a1.Epoch), (.string a1.Rack), (.int .i64 a1.Word.Broker), (.int .i64 a1.Word.Epoch), (.int .i64 a1.Word.High), (.bool a1.Word.Fence), (.bool a1.Word.Leave)])] M [] (f_ask_Same_post a0 a1 v0_10 v1_10 res) := by
 unfold f_ask_Same at h
 refine Tri.enter (fn := Try.f32) Try.func32 rfl (Nat.le_of_ble_eq_true rfl) ?_
 intro F ρ hρ
 refine Sr ?_
 refine WL.eff (EO.box (cs := #[(.int .i64 a0.Client), (.int .i64 a0.Serial), (.int .i64 a0.Kind), (.string a0.Name), (.string a0.Key), (.string a0.Value), (.bool a0.Flag), (.int .i64 a0.Parts), (.int .i64 a0.Replicas), (.int .i64 a0.Part), v0_10, (.int .i64 a0.Broker), (.int .i64 a0.Epoch), (.string a0.Rack), (.int .i64 a0.Word.Broker), (.int .i64 a0.Word.Epoch), (.int .i64 a0.Word.High), (.bool a0.Word.Fence), (.bool a0.Word.Leave)]) (congrArg Value.cells (asE (.agg #[(.int .i64 a0.Client), (.int .i64 a0.Serial), (.int .i64 a0.Kind), (.string a0.Name), (.string a0.Key), (.string a0.Value), (.bool a0.Flag), (.int .i64 a0.Parts), (.int .i64 a0.Replicas), (.int .i64 a0.Part), v0_10, (.int .i64 a0.Broker), (.int .i64 a0.Epoch), (.string a0.Rack), (.int .i64 a0.Word.Broker), (.int .i64 a0.Word.Epoch), (.int .i64 a0.Word.High), (.bool a0.Word.Fence), (.bool a0.Word.Leave)]) (hρ 0)))) rfl ?_
 rintro _ _ _ - ⟨rfl, g21, rfl, rfl⟩
 refine WL.eff (EO.box (cs := #[(.int .i64 a1.Client), (.int .i64 a1.Serial), (.int .i64 a1.Kind), (.string a1.Name), (.string a1.Key), (.string a1.Value), (.bool a1.Flag), (.int .i64 a1.Parts), (.int .i64 a1.Replicas), (.int .i64 a1.Part), v1_10, (.int .i64 a1.Broker), (.int .i64 a1.Epoch), (.string a1.Rack), (.int .i64 a1.Word.Broker), (.int .i64 a1.Word.Epoch), (.int .i64 a1.Word.High), (.bool a1.Word.Fence), (.bool a1.Word.Leave)]) (congrArg Value.cells (asE (.agg #[(.int .i64 a1.Client), (.int .i64 a1.Serial), (.int .i64 a1.Kind), (.string a1.Name), (.string a1.Key), (.string a1.Value), (.bool a1.Flag), (.int .i64 a1.Parts), (.int .i64 a1.Replicas), (.int .i64 a1.Part), v1_10, (.int .i64 a1.Broker), (.int .i64 a1.Epoch), (.string a1.Rack), (.int .i64 a1.Word.Broker), (.int .i64 a1.Word.Epoch), (.int .i64 a1.Word.High), (.bool a1.Word.Fence), (.bool a1.Word.Leave)]) (hρ 1)))) rfl ?_
 rintro _ _ _ - ⟨rfl, g22, rfl, rfl⟩
 refine Pa (.bool false) rfl rfl ?_
 refine Ns ?_
 refine Pa (.func (.func 41) #[] #[]) rfl rfl ?_
 refine Ns ?_
 refine Pa (.func (.func 42) #[] #[]) rfl rfl ?_
 refine Nt ?_
 obtain ⟨x23, hj24, h⟩ := bnd h
 refine WC.joinF (fun (x23 : Bool) ρ' M' H' => M.le M' ∧ [(g22, .cells #[(.int .i64 a1.Client), (.int .i64 a1.Serial), (.int .i64 a1.Kind), (.string a1.Name), (.string a1.Key), (.string a1.Value), (.bool a1.Flag), (.int .i64 a1.Parts), (.int .i64 a1.Replicas), (.int .i64 a1.Part), v1_10, (.int .i64 a1.Broker), (.int .i64 a1.Epoch), (.string a1.Rack), (.int .i64 a1.Word.Broker), (.int .i64 a1.Word.Epoch), (.int .i64 a1.Word.High), (.bool a1.Word.Fence), (.bool a1.Word.Leave)] 29 (0, 0))] :: [(g21, .cells #[(.int .i64 a0.Client), (.int .i64 a0.Serial), (.int .i64 a0.Kind), (.string a0.Name), (.string a0.Key), (.string a0.Value), (.bool a0.Flag), (.int .i64 a0.Parts), (.int .i64 a0.Replicas), (.int .i64 a0.Part), v0_10, (.int .i64 a0.Broker), (.int .i64 a0.Epoch), (.string a0.Rack), (.int .i64 a0.Word.Broker), (.int .i64 a0.Word.Epoch), (.int .i64 a0.Word.High), (.bool a0.Word.Fence), (.bool a0.Word.Leave)] 29 (0, 0))] :: F = H' ∧ ρ' 4 = (.bool x23)) x23 ?_ ?_
 have h324 := h
 have h := hj24
 refine WC.draw [0, 0, 3, 0, 0, 31, 63, 127, 255, 255, 1023, 255, 255, 8191, 16383, 32767, 65535, 131071, 262143, 131071, 655359, 2097151, 4194303, 8388607, 16777215, 33554431, 16777215, 83886079, 268435455, 536870911, 1073741823, 2147483647, 4294967295, 2147483647, 10737418239, 34359738367, 68719476735, 137438953471] (.pure 0 (.pure 1 (.pure 3 (.pure 4 (.alt 2 (.alt 5 (.pure 6 (.pure 7 (.pure 8 (.pure 9 (.pure 11 (.pure 12 (.alt 10 (.alt 13 (.pure 14 (.pure 15 (.pure 16 (.pure 17 (.pure 18 (.pure 19 (.pure 20 (.pure 21 (.pure 22 (.pure 23 (.pure 24 (.pure 25 (.pure 26 (.pure 27 (.pure 28 (.pure 29 (.pure 30 (.pure 31 (.pure 32 (.pure 33 (.pure 34 (.alt 35 (.pure 36 (.pure 37 .done)) .none)))))))))))))))))))))) .none) .none))))))) .none) .none))))) mixed (by kernel_rfl) ?_
 refine Tp (.func (.func 41) #[] #[]) rfl (PO.move rfl) rfl ?_
 refine Tp (.agg #[(.int .i64 a0.Client), (.int .i64 a0.Serial), (.int .i64 a0.Kind), (.string a0.Name), (.string a0.Key), (.string a0.Value), (.bool a0.Flag), (.int .i64 a0.Parts), (.int .i64 a0.Replicas), (.int .i64 a0.Part), v0_10, (.int .i64 a0.Broker), (.int .i64 a0.Epoch), (.string a0.Rack), (.int .i64 a0.Word.Broker), (.int .i64 a0.Word.Epoch), (.int .i64 a0.Word.High), (.bool a0.Word.Fence), (.bool a0.Word.Leave)]) rfl (PO.loadBA (cs := [(.int .i64 a0.Client), (.int .i64 a0.Serial), (.int .i64 a0.Kind), (.string a0.Name), (.string a0.Key), (.string a0.Value), (.bool a0.Flag), (.int .i64 a0.Parts), (.int .i64 a0.Replicas), (.int .i64 a0.Part), v0_10, (.int .i64 a0.Broker), (.int .i64 a0.Epoch), (.string a0.Rack), (.int .i64 a0.Word.Broker), (.int .i64 a0.Word.Epoch), (.int .i64 a0.Word.High), (.bool a0.Word.Fence), (.bool a0.Word.Leave)]) 1 ag29 sz29 rfl rfl rfl) rfl ?_
 refine Tp (.func (.func 41) #[] #[]) rfl (PO.move rfl) rfl ?_
 refine Tp (.agg #[(.int .i64 a1.Client), (.int .i64 a1.Serial), (.int .i64 a1.Kind), (.string a1.Name), (.string a1.Key), (.string a1.Value), (.bool a1.Flag), (.int .i64 a1.Parts), (.int .i64 a1.Replicas), (.int .i64 a1.Part), v1_10, (.int .i64 a1.Broker), (.int .i64 a1.Epoch), (.string a1.Rack), (.int .i64 a1.Word.Broker), (.int .i64 a1.Word.Epoch), (.int .i64 a1.Word.High), (.bool a1.Word.Fence), (.bool a1.Word.Leave)]) rfl (PO.loadBA (cs := [(.int .i64 a1.Client), (.int .i64 a1.Serial), (.int .i64 a1.Kind), (.string a1.Name), (.string a1.Key), (.string a1.Value), (.bool a1.Flag), (.int .i64 a1.Parts), (.int .i64 a1.Replicas), (.int .i64 a1.Part), v1_10, (.int .i64 a1.Broker), (.int .i64 a1.Epoch), (.string a1.Rack), (.int .i64 a1.Word.Broker), (.int .i64 a1.Word.Epoch), (.int .i64 a1.Word.High), (.bool a1.Word.Fence), (.bool a1.Word.Leave)]) 0 ag29 sz29 rfl rfl rfl) rfl ?_
 obtain ⟨r25, hr26, h⟩ := bnd h
 refine WT.alt rfl (EO.callV0 (first := #[]) (cap := #[]) co41 rfl (f_ask_Same_1_ok a0 _ _ h0_10 r25 hr26) (argsV1 rfl rfl)) rfl ?_ ?_
 rintro _ M27 _ hle28 ⟨_, ⟨rfl, rfl⟩, rfl⟩
 have h0_10 := h0_10.mono hle28
 have h1_10 := h1_10.mono hle28
 refine ⟨(StabL.st (StabA.of rfl (PO.loadBA (cs := [(.int .i64 a1.Client), (.int .i64 a1.Serial), (.int .i64 a1.Kind), (.string a1.Name), (.string a1.Key), (.string a1.Value), (.bool a1.Flag), (.int .i64 a1.Parts), (.int .i64 a1.Replicas), (.int .i64 a1.Part), v1_10, (.int .i64 a1.Broker), (.int .i64 a1.Epoch), (.string a1.Rack), (.int .i64 a1.Word.Broker), (.int .i64 a1.Word.Epoch), (.int .i64 a1.Word.High), (.bool a1.Word.Fence), (.bool a1.Word.Leave)]) 0 ag29 sz29 rfl rfl rfl) rfl) (StabL.st (StabA.of rfl (PO.move rfl) rfl) (StabL.anc rfl (StabL.anc rfl trivial)))), ?_⟩
 refine WT.a0 ?_
 obtain ⟨r30, hr31, h⟩ := bnd h
 refine WT.alt rfl (EO.callV0 (first := #[]) (cap := #[]) co41 rfl (f_ask_Same_1_ok a1 _ _ h1_10 r30 hr31) (argsV1 rfl rfl)) rfl ?_ ?_
 rintro _ M32 _ hle33 ⟨_, ⟨rfl, rfl⟩, rfl⟩
 have h0_10 := h0_10.mono hle33
 have h1_10 := h1_10.mono hle33
 refine ⟨(StabL.anc rfl (StabL.anc rfl (StabL.anc rfl (StabL.anc rfl trivial)))), ?_⟩
 refine WT.a0 ?_
 refine Tp (.bool (andL [decide ((rd r25 (0 : Int)) = (rd r30 (0 : Int))), decide ((rd r25 (1 : Int)) = (rd r30 (1 : Int))), decide ((rd r25 (2 : Int)) = (rd r30 (2 : Int))), decide ((rd r25 (3 : Int)) = (rd r30 (3 : Int))), decide ((rd r25 (4 : Int)) = (rd r30 (4 : Int))), decide ((rd r25 (5 : Int)) = (rd r30 (5 : Int))), decide ((rd r25 (6 : Int)) = (rd r30 (6 : Int))), decide ((rd r25 (7 : Int)) = (rd r30 (7 : Int)))])) rfl (PO.eqAgg eg52 rfl rfl (run_equal_array Try.underlying52 pl3 sz3 (EqIs.cons rfl rfl (EqC.int Try.underlying3) (EqIs.cons rfl rfl (EqC.int Try.underlying3) (EqIs.cons rfl rfl (EqC.int Try.underlying3) (EqIs.cons rfl rfl (EqC.int Try.underlying3) (EqIs.cons rfl rfl (EqC.int Try.underlying3) (EqIs.cons rfl rfl (EqC.int Try.underlying3) (EqIs.cons rfl rfl (EqC.int Try.underlying3) (EqIs.cons rfl rfl (EqC.int Try.underlying3) EqIs.nil)))))))))) rfl ?_
 refine Tp (.bool (andL [decide ((rd r25 (0 : Int)) = (rd r30 (0 : Int))), decide ((rd r25 (1 : Int)) = (rd r30 (1 : Int))), decide ((rd r25 (2 : Int)) = (rd r30 (2 : Int))), decide ((rd r25 (3 : Int)) = (rd r30 (3 : Int))), decide ((rd r25 (4 : Int)) = (rd r30 (4 : Int))), decide ((rd r25 (5 : Int)) = (rd r30 (5 : Int))), decide ((rd r25 (6 : Int)) = (rd r30 (6 : Int))), decide ((rd r25 (7 : Int)) = (rd r30 (7 : Int)))])) rfl (PO.move rfl) rfl ?_
 rcases Bool.eq_false_or_eq_true (andL [decide ((rd r25 (0 : Int)) = (rd r30 (0 : Int))), decide ((rd r25 (1 : Int)) = (rd r30 (1 : Int))), decide ((rd r25 (2 : Int)) = (rd r30 (2 : Int))), decide ((rd r25 (3 : Int)) = (rd r30 (3 : Int))), decide ((rd r25 (4 : Int)) = (rd r30 (4 : Int))), decide ((rd r25 (5 : Int)) = (rd r30 (5 : Int))), decide ((rd r25 (6 : Int)) = (rd r30 (6 : Int))), decide ((rd r25 (7 : Int)) = (rd r30 (7 : Int)))]) with hb35 | hb35
 have h := ite_t hb35 h
 refine Tn (.func (.func 42) #[] #[]) 14 rfl rfl rfl hb35 (PO.move rfl) rfl ?_
 refine Tn (.agg #[(.int .i64 a0.Client), (.int .i64 a0.Serial), (.int .i64 a0.Kind), (.string a0.Name), (.string a0.Key), (.string a0.Value), (.bool a0.Flag), (.int .i64 a0.Parts), (.int .i64 a0.Replicas), (.int .i64 a0.Part), v0_10, (.int .i64 a0.Broker), (.int .i64 a0.Epoch), (.string a0.Rack), (.int .i64 a0.Word.Broker), (.int .i64 a0.Word.Epoch), (.int .i64 a0.Word.High), (.bool a0.Word.Fence), (.bool a0.Word.Leave)]) 14 rfl rfl rfl hb35 (PO.loadBA (cs := [(.int .i64 a0.Client), (.int .i64 a0.Serial), (.int .i64 a0.Kind), (.string a0.Name), (.string a0.Key), (.string a0.Value), (.bool a0.Flag), (.int .i64 a0.Parts), (.int .i64 a0.Replicas), (.int .i64 a0.Part), v0_10, (.int .i64 a0.Broker), (.int .i64 a0.Epoch), (.string a0.Rack), (.int .i64 a0.Word.Broker), (.int .i64 a0.Word.Epoch), (.int .i64 a0.Word.High), (.bool a0.Word.Fence), (.bool a0.Word.Leave)]) 1 ag29 sz29 rfl rfl rfl) rfl ?_
 refine Tn (.func (.func 42) #[] #[]) 14 rfl rfl rfl hb35 (PO.move rfl) rfl ?_
 refine Tn (.agg #[(.int .i64 a1.Client), (.int .i64 a1.Serial), (.int .i64 a1.Kind), (.string a1.Name), (.string a1.Key), (.string a1.Value), (.bool a1.Flag), (.int .i64 a1.Parts), (.int .i64 a1.Replicas), (.int .i64 a1.Part), v1_10, (.int .i64 a1.Broker), (.int .i64 a1.Epoch), (.string a1.Rack), (.int .i64 a1.Word.Broker), (.int .i64 a1.Word.Epoch), (.int .i64 a1.Word.High), (.bool a1.Word.Fence), (.bool a1.Word.Leave)]) 14 rfl rfl rfl hb35 (PO.loadBA (cs := [(.int .i64 a1.Client), (.int .i64 a1.Serial), (.int .i64 a1.Kind), (.string a1.Name), (.string a1.Key), (.string a1.Value), (.bool a1.Flag), (.int .i64 a1.Parts), (.int .i64 a1.Replicas), (.int .i64 a1.Part), v1_10, (.int .i64 a1.Broker), (.int .i64 a1.Epoch), (.string a1.Rack), (.int .i64 a1.Word.Broker), (.int .i64 a1.Word.Epoch), (.int .i64 a1.Word.High), (.bool a1.Word.Fence), (.bool a1.Word.Leave)]) 0 ag29 sz29 rfl rfl rfl) rfl ?_
 obtain ⟨r36, hr37, h⟩ := bnd h
 refine WT.altOn 14 rfl rfl rfl hb35 (EO.callV0 (first := #[]) (cap := #[]) co42 rfl (f_ask_Same_2_ok a0 _ _ h0_10 r36 hr37) (argsV1 rfl rfl)) rfl ?_ ?_
 rintro _ M38 _ hle39 ⟨_, ⟨rfl, rfl⟩, rfl⟩
 have h0_10 := h0_10.mono hle39
 have h1_10 := h1_10.mono hle39
 refine ⟨(StabL.st (StabA.on 14 rfl rfl rfl hb35 (PO.loadBA (cs := [(.int .i64 a1.Client), (.int .i64 a1.Serial), (.int .i64 a1.Kind), (.string a1.Name), (.string a1.Key), (.string a1.Value), (.bool a1.Flag), (.int .i64 a1.Parts), (.int .i64 a1.Replicas), (.int .i64 a1.Part), v1_10, (.int .i64 a1.Broker), (.int .i64 a1.Epoch), (.string a1.Rack), (.int .i64 a1.Word.Broker), (.int .i64 a1.Word.Epoch), (.int .i64 a1.Word.High), (.bool a1.Word.Fence), (.bool a1.Word.Leave)]) 0 ag29 sz29 rfl rfl rfl) rfl) (StabL.st (StabA.on 14 rfl rfl rfl hb35 (PO.move rfl) rfl) (StabL.anc rfl (StabL.anc rfl (StabL.anc rfl (StabL.anc rfl (StabL.anc rfl (StabL.anc rfl (StabL.anc rfl (StabL.anc rfl trivial)))))))))), ?_⟩
 refine WT.a0 ?_
 obtain ⟨r41, hr42, h⟩ := bnd h
 refine WT.altOn 14 rfl rfl rfl hb35 (EO.callV0 (first := #[]) (cap := #[]) co42 rfl (f_ask_Same_2_ok a1 _ _ h1_10 r41 hr42) (argsV1 rfl rfl)) rfl ?_ ?_
 rintro _ M43 _ hle44 ⟨_, ⟨rfl, rfl⟩, rfl⟩
 have h0_10 := h0_10.mono hle44
 have h1_10 := h1_10.mono hle44
 refine ⟨(StabL.anc rfl (StabL.anc rfl (StabL.anc rfl (StabL.anc rfl (StabL.anc rfl (StabL.anc rfl (StabL.anc rfl (StabL.anc rfl (StabL.anc rfl (StabL.anc rfl trivial)))))))))), ?_⟩
 refine WT.a0 ?_
 refine Tn (.bool (andL [(rd r36 (0 : Int)) == (rd r41 (0 : Int)), (rd r36 (1 : Int)) == (rd r41 (1 : Int)), (rd r36 (2 : Int)) == (rd r41 (2 : Int)), (rd r36 (3 : Int)) == (rd r41 (3 : Int))])) 14 rfl rfl rfl hb35 (PO.eqAgg eg84 rfl rfl (run_equal_array Try.underlying84 pl9 sz9 (EqIs.cons rfl rfl (EqC.str Try.underlying9) (EqIs.cons rfl rfl (EqC.str Try.underlying9) (EqIs.cons rfl rfl (EqC.str Try.underlying9) (EqIs.cons rfl rfl (EqC.str Try.underlying9) EqIs.nil)))))) rfl ?_
 refine Tp (.bool (andL [(rd r36 (0 : Int)) == (rd r41 (0 : Int)), (rd r36 (1 : Int)) == (rd r41 (1 : Int)), (rd r36 (2 : Int)) == (rd r41 (2 : Int)), (rd r36 (3 : Int)) == (rd r41 (3 : Int))])) rfl (PO.pickT rfl hb35 rfl) rfl ?_
 refine Tp (.bool (andL [(rd r36 (0 : Int)) == (rd r41 (0 : Int)), (rd r36 (1 : Int)) == (rd r41 (1 : Int)), (rd r36 (2 : Int)) == (rd r41 (2 : Int)), (rd r36 (3 : Int)) == (rd r41 (3 : Int))])) rfl (PO.move rfl) rfl ?_
 rcases Bool.eq_false_or_eq_true (andL [(rd r36 (0 : Int)) == (rd r41 (0 : Int)), (rd r36 (1 : Int)) == (rd r41 (1 : Int)), (rd r36 (2 : Int)) == (rd r41 (2 : Int)), (rd r36 (3 : Int)) == (rd r41 (3 : Int))]) with hb46 | hb46
 have h := ite_t hb46 h
 refine Tn (.pointer (some ⟨g21, 6, none⟩)) 23 rfl rfl rfl hb46 (PO.fieldAddr fo29_6 rfl rfl) rfl ?_
 refine Tn (.bool a0.Flag) 23 rfl rfl rfl hb46 (PO.loadB 1 pl4 rfl rfl rfl) rfl ?_
 refine Tn (.pointer (some ⟨g22, 6, none⟩)) 23 rfl rfl rfl hb46 (PO.fieldAddr fo29_6 rfl rfl) rfl ?_
 refine Tn (.bool a1.Flag) 23 rfl rfl rfl hb46 (PO.loadB 0 pl4 rfl rfl rfl) rfl ?_
 refine Tn (.bool (a0.Flag == a1.Flag)) 23 rfl rfl rfl hb46 (PO.beql Try.underlying4 rfl rfl) rfl ?_
 refine Tp (.bool (a0.Flag == a1.Flag)) rfl (PO.pickT rfl hb46 rfl) rfl ?_
 refine Tp (.bool (a0.Flag == a1.Flag)) rfl (PO.move rfl) rfl ?_
 rcases Bool.eq_false_or_eq_true (a0.Flag == a1.Flag) with hb47 | hb47
 have h := ite_t hb47 h
 refine Tn (.pointer (some ⟨g21, 14, none⟩)) 30 rfl rfl rfl hb47 (PO.fieldAddr fo29_14 rfl rfl) rfl ?_
 refine Tn (.agg #[(.int .i64 a0.Word.Broker), (.int .i64 a0.Word.Epoch), (.int .i64 a0.Word.High), (.bool a0.Word.Fence), (.bool a0.Word.Leave)]) 30 rfl rfl rfl hb47 (PO.loadBA (cs := [(.int .i64 a0.Word.Broker), (.int .i64 a0.Word.Epoch), (.int .i64 a0.Word.High), (.bool a0.Word.Fence), (.bool a0.Word.Leave)]) 1 ag27 sz27 rfl rfl rfl) rfl ?_
 refine Tn (.pointer (some ⟨g22, 14, none⟩)) 30 rfl rfl rfl hb47 (PO.fieldAddr fo29_14 rfl rfl) rfl ?_
 refine Tn (.agg #[(.int .i64 a1.Word.Broker), (.int .i64 a1.Word.Epoch), (.int .i64 a1.Word.High), (.bool a1.Word.Fence), (.bool a1.Word.Leave)]) 30 rfl rfl rfl hb47 (PO.loadBA (cs := [(.int .i64 a1.Word.Broker), (.int .i64 a1.Word.Epoch), (.int .i64 a1.Word.High), (.bool a1.Word.Fence), (.bool a1.Word.Leave)]) 0 ag27 sz27 rfl rfl rfl) rfl ?_
 refine Tn (.bool (andL [decide (a0.Word.Broker = a1.Word.Broker), decide (a0.Word.Epoch = a1.Word.Epoch), decide (a0.Word.High = a1.Word.High), a0.Word.Fence == a1.Word.Fence, a0.Word.Leave == a1.Word.Leave])) 30 rfl rfl rfl hb47 (PO.eqAgg eg27 rfl rfl (run_equal_struct Try.underlying27 eq27 (EqFs.cons (by decide) pl3 rfl rfl (EqC.int Try.underlying3) (EqFs.cons (by decide) pl3 rfl rfl (EqC.int Try.underlying3) (EqFs.cons (by decide) pl3 rfl rfl (EqC.int Try.underlying3) (EqFs.cons (by decide) pl4 rfl rfl (EqC.bool Try.underlying4) (EqFs.cons (by decide) pl4 rfl rfl (EqC.bool Try.underlying4) EqFs.nil))))))) rfl ?_
 refine Tp (.bool (andL [decide (a0.Word.Broker = a1.Word.Broker), decide (a0.Word.Epoch = a1.Word.Epoch), decide (a0.Word.High = a1.Word.High), a0.Word.Fence == a1.Word.Fence, a0.Word.Leave == a1.Word.Leave])) rfl (PO.pickT rfl hb47 rfl) rfl ?_
 refine Tp (.bool (andL [decide (a0.Word.Broker = a1.Word.Broker), decide (a0.Word.Epoch = a1.Word.Epoch), decide (a0.Word.High = a1.Word.High), a0.Word.Fence == a1.Word.Fence, a0.Word.Leave == a1.Word.Leave])) rfl (PO.move rfl) rfl ?_
 rcases Bool.eq_false_or_eq_true (andL [decide (a0.Word.Broker = a1.Word.Broker), decide (a0.Word.Epoch = a1.Word.Epoch), decide (a0.Word.High = a1.Word.High), a0.Word.Fence == a1.Word.Fence, a0.Word.Leave == a1.Word.Leave]) with hb48 | hb48
 have h := ite_t hb48 h
 refine Tn (.pointer (some ⟨g21, 10, none⟩)) 37 rfl rfl rfl hb48 (PO.fieldAddr fo29_10 rfl rfl) rfl ?_
 refine Tn v0_10 37 rfl rfl rfl hb48 (PO.loadB 1 pl25 rfl rfl rfl) rfl ?_
 refine Tn (.pointer (some ⟨g22, 10, none⟩)) 37 rfl rfl rfl hb48 (PO.fieldAddr fo29_10 rfl rfl) rfl ?_
 refine Tn v1_10 37 rfl rfl rfl hb48 (PO.loadB 0 pl25 rfl rfl rfl) rfl ?_
 obtain ⟨r49, hr50, h⟩ := bnd h
 refine WT.altOn 37 rfl rfl rfl hb48 (EO.call0 co43 (f_slices_Equal_int_int_ok a0.Ids a1.Ids _ _ _ h0_10 h1_10 r49 hr50) (args2 rfl rfl)) rfl ?_ ?_
 rintro _ M51 _ hle52 ⟨_, ⟨rfl, rfl⟩, rfl⟩
 have h0_10 := h0_10.mono hle52
 have h1_10 := h1_10.mono hle52
 refine ⟨(StabL.anc rfl (StabL.anc rfl (StabL.anc rfl (StabL.anc rfl (StabL.anc rfl (StabL.anc rfl (StabL.anc rfl (StabL.anc rfl (StabL.anc rfl (StabL.anc rfl (StabL.anc rfl (StabL.anc rfl (StabL.anc rfl (StabL.anc rfl (StabL.anc rfl (StabL.anc rfl (StabL.anc rfl (StabL.anc rfl (StabL.anc rfl (StabL.anc rfl (StabL.anc rfl (StabL.anc rfl (StabL.anc rfl (StabL.anc rfl (StabL.anc rfl (StabL.anc rfl (StabL.anc rfl (StabL.anc rfl (StabL.anc rfl (StabL.anc rfl (StabL.anc rfl trivial))))))))))))))))))))))))))))))), ?_⟩
 refine WT.a0 ?_
 refine Tp (.bool r49) rfl (PO.pickT rfl hb48 rfl) rfl ?_
 refine Tp (.bool r49) rfl (PO.assign rfl) rfl ?_
 refine WT.fin ?_
 obtain rfl := Option.some.inj h
 refine WQ.thenJ ?_
 exact ⟨((((hle28.trans hle33).trans hle39).trans hle44).trans hle52), rfl, rfl⟩
 exact WT.no
 have h := ite_f hb48 h
 refine WT.pureOff 37 rfl rfl rfl hb48 rfl ?_
 refine WT.pureOff 37 rfl rfl rfl hb48 rfl ?_
 refine WT.pureOff 37 rfl rfl rfl hb48 rfl ?_
 refine WT.pureOff 37 rfl rfl rfl hb48 rfl ?_
 refine WT.altOff 37 rfl rfl rfl hb48 rfl ⟨(StabL.anc rfl (StabL.anc rfl (StabL.anc rfl (StabL.anc rfl (StabL.anc rfl (StabL.anc rfl (StabL.anc rfl (StabL.anc rfl (StabL.anc rfl (StabL.anc rfl (StabL.anc rfl (StabL.anc rfl (StabL.anc rfl (StabL.anc rfl (StabL.anc rfl (StabL.anc rfl (StabL.anc rfl (StabL.anc rfl (StabL.anc rfl (StabL.anc rfl (StabL.anc rfl (StabL.anc rfl (StabL.anc rfl (StabL.anc rfl (StabL.anc rfl (StabL.anc rfl (StabL.anc rfl (StabL.anc rfl (StabL.anc rfl (StabL.anc rfl (StabL.anc rfl trivial))))))))))))))))))))))))))))))), ?_⟩ ?_
 refine Tp (.bool false) rfl (PO.pickF rfl hb48 rfl) rfl ?_
 refine Tp (.bool false) rfl (PO.assign rfl) rfl ?_
 refine WT.fin ?_
 obtain rfl := Option.some.inj h
 refine WQ.thenJ ?_
 exact ⟨(((hle28.trans hle33).trans hle39).trans hle44), rfl, rfl⟩
 exact WT.no
 have h := ite_f hb47 h
 refine WT.pureOff 30 rfl rfl rfl hb47 rfl ?_
 refine WT.pureOff 30 rfl rfl rfl hb47 rfl ?_
 refine WT.pureOff 30 rfl rfl rfl hb47 rfl ?_
 refine WT.pureOff 30 rfl rfl rfl hb47 rfl ?_
 refine WT.pureOff 30 rfl rfl rfl hb47 rfl ?_
 refine Tp (.bool false) rfl (PO.pickF rfl hb47 rfl) rfl ?_
 refine Tp (.bool false) rfl (PO.move rfl) rfl ?_
 refine WT.pureOff 37 rfl rfl rfl rfl rfl ?_
 refine WT.pureOff 37 rfl rfl rfl rfl rfl ?_
 refine WT.pureOff 37 rfl rfl rfl rfl rfl ?_
 refine WT.pureOff 37 rfl rfl rfl rfl rfl ?_
 refine WT.altOff 37 rfl rfl rfl rfl rfl ⟨(StabL.anc rfl (StabL.anc rfl (StabL.anc rfl (StabL.anc rfl (StabL.anc rfl (StabL.anc rfl (StabL.anc rfl (StabL.anc rfl (StabL.anc rfl (StabL.anc rfl (StabL.anc rfl (StabL.anc rfl (StabL.anc rfl (StabL.anc rfl (StabL.anc rfl (StabL.anc rfl (StabL.anc rfl (StabL.anc rfl (StabL.anc rfl (StabL.anc rfl (StabL.anc rfl (StabL.anc rfl (StabL.anc rfl (StabL.anc rfl (StabL.anc rfl (StabL.anc rfl (StabL.anc rfl (StabL.anc rfl (StabL.anc rfl (StabL.anc rfl (StabL.anc rfl trivial))))))))))))))))))))))))))))))), ?_⟩ ?_
 refine Tp (.bool false) rfl (PO.pickF rfl rfl rfl) rfl ?_
 refine Tp (.bool false) rfl (PO.assign rfl) rfl ?_
 refine WT.fin ?_
 obtain rfl := Option.some.inj h
 refine WQ.thenJ ?_
 exact ⟨(((hle28.trans hle33).trans hle39).trans hle44), rfl, rfl⟩
 exact WT.no
 have h := ite_f hb46 h
 refine WT.pureOff 23 rfl rfl rfl hb46 rfl ?_
 refine WT.pureOff 23 rfl rfl rfl hb46 rfl ?_
 refine WT.pureOff 23 rfl rfl rfl hb46 rfl ?_
 refine WT.pureOff 23 rfl rfl rfl hb46 rfl ?_
 refine WT.pureOff 23 rfl rfl rfl hb46 rfl ?_
 refine Tp (.bool false) rfl (PO.pickF rfl hb46 rfl) rfl ?_
 refine Tp (.bool false) rfl (PO.move rfl) rfl ?_
 refine WT.pureOff 30 rfl rfl rfl rfl rfl ?_
 refine WT.pureOff 30 rfl rfl rfl rfl rfl ?_
 refine WT.pureOff 30 rfl rfl rfl rfl rfl ?_
 refine WT.pureOff 30 rfl rfl rfl rfl rfl ?_
 refine WT.pureOff 30 rfl rfl rfl rfl rfl ?_
 refine Tp (.bool false) rfl (PO.pickF rfl rfl rfl) rfl ?_
 refine Tp (.bool false) rfl (PO.move rfl) rfl ?_
 refine WT.pureOff 37 rfl rfl rfl rfl rfl ?_
 refine WT.pureOff 37 rfl rfl rfl rfl rfl ?_
 refine WT.pureOff 37 rfl rfl rfl rfl rfl ?_
 refine WT.pureOff 37 rfl rfl rfl rfl rfl ?_
 refine WT.altOff 37 rfl rfl rfl rfl rfl ⟨(StabL.anc rfl (StabL.anc rfl (StabL.anc rfl (StabL.anc rfl (StabL.anc rfl (StabL.anc rfl (StabL.anc rfl (StabL.anc rfl (StabL.anc rfl (StabL.anc rfl (StabL.anc rfl (StabL.anc rfl (StabL.anc rfl (StabL.anc rfl (StabL.anc rfl (StabL.anc rfl (StabL.anc rfl (StabL.anc rfl (StabL.anc rfl (StabL.anc rfl (StabL.anc rfl (StabL.anc rfl (StabL.anc rfl (StabL.anc rfl (StabL.anc rfl (StabL.anc rfl (StabL.anc rfl (StabL.anc rfl (StabL.anc rfl (StabL.anc rfl (StabL.anc rfl trivial))))))))))))))))))))))))))))))), ?_⟩ ?_
 refine Tp (.bool false) rfl (PO.pickF rfl rfl rfl) rfl ?_
 refine Tp (.bool false) rfl (PO.assign rfl) rfl ?_
 refine WT.fin ?_
 obtain rfl := Option.some.inj h
 refine WQ.thenJ ?_
 exact ⟨(((hle28.trans hle33).trans hle39).trans hle44), rfl, rfl⟩
 exact WT.no
 exact WT.no
 exact WT.no
 have h := ite_f hb35 h
 refine WT.pureOff 14 rfl rfl rfl hb35 rfl ?_
 refine WT.pureOff 14 rfl rfl rfl hb35 rfl ?_
 refine WT.pureOff 14 rfl rfl rfl hb35 rfl ?_
 refine WT.pureOff 14 rfl rfl rfl hb35 rfl ?_
 refine WT.altOff 14 rfl rfl rfl hb35 rfl ⟨(StabL.st (StabA.off 14 rfl rfl rfl hb35 rfl) (StabL.st (StabA.off 14 rfl rfl rfl hb35 rfl) (StabL.anc rfl (StabL.anc rfl (StabL.anc rfl (StabL.anc rfl (StabL.anc rfl (StabL.anc rfl (StabL.anc rfl (StabL.anc rfl trivial)))))))))), ?_⟩ ?_
 refine WT.altOff 14 rfl rfl rfl hb35 rfl ⟨(StabL.anc rfl (StabL.anc rfl (StabL.anc rfl (StabL.anc rfl (StabL.anc rfl (StabL.anc rfl (StabL.anc rfl (StabL.anc rfl (StabL.anc rfl (StabL.anc rfl trivial)))))))))), ?_⟩ ?_
 refine WT.pureOff 14 rfl rfl rfl hb35 rfl ?_
 refine Tp (.bool false) rfl (PO.pickF rfl hb35 rfl) rfl ?_
 refine Tp (.bool false) rfl (PO.move rfl) rfl ?_
 refine WT.pureOff 23 rfl rfl rfl rfl rfl ?_
 refine WT.pureOff 23 rfl rfl rfl rfl rfl ?_
 refine WT.pureOff 23 rfl rfl rfl rfl rfl ?_
 refine WT.pureOff 23 rfl rfl rfl rfl rfl ?_
 refine WT.pureOff 23 rfl rfl rfl rfl rfl ?_
 refine Tp (.bool false) rfl (PO.pickF rfl rfl rfl) rfl ?_
 refine Tp (.bool false) rfl (PO.move rfl) rfl ?_
 refine WT.pureOff 30 rfl rfl rfl rfl rfl ?_
 refine WT.pureOff 30 rfl rfl rfl rfl rfl ?_
 refine WT.pureOff 30 rfl rfl rfl rfl rfl ?_
 refine WT.pureOff 30 rfl rfl rfl rfl rfl ?_
 refine WT.pureOff 30 rfl rfl rfl rfl rfl ?_
 refine Tp (.bool false) rfl (PO.pickF rfl rfl rfl) rfl ?_
 refine Tp (.bool false) rfl (PO.move rfl) rfl ?_
 refine WT.pureOff 37 rfl rfl rfl rfl rfl ?_
 refine WT.pureOff 37 rfl rfl rfl rfl rfl ?_
 refine WT.pureOff 37 rfl rfl rfl rfl rfl ?_
 refine WT.pureOff 37 rfl rfl rfl rfl rfl ?_
 refine WT.altOff 37 rfl rfl rfl rfl rfl ⟨(StabL.anc rfl (StabL.anc rfl (StabL.anc rfl (StabL.anc rfl (StabL.anc rfl (StabL.anc rfl (StabL.anc rfl (StabL.anc rfl (StabL.anc rfl (StabL.anc rfl (StabL.anc rfl (StabL.anc rfl (StabL.anc rfl (StabL.anc rfl (StabL.anc rfl (StabL.anc rfl (StabL.anc rfl (StabL.anc rfl (StabL.anc rfl (StabL.anc rfl (StabL.anc rfl (StabL.anc rfl (StabL.anc rfl (StabL.anc rfl (StabL.anc rfl (StabL.anc rfl (StabL.anc rfl (StabL.anc rfl (StabL.anc rfl (StabL.anc rfl (StabL.anc rfl trivial))))))))))))))))))))))))))))))), ?_⟩ ?_
 refine Tp (.bool false) rfl (PO.pickF rfl rfl rfl) rfl ?_
 refine Tp (.bool false) rfl (PO.assign rfl) rfl ?_
 refine WT.fin ?_
 obtain rfl := Option.some.inj h
 refine WQ.thenJ ?_
 exact ⟨(hle28.trans hle33), rfl, rfl⟩
 exact WT.no
 exact WT.no
 exact WT.no
 exact WT.no
 exact WT.no
 rintro ρ24 M24 H24 ⟨hle24, rfl, hs24_4⟩
 have h1_10 := h1_10.mono hle24
 have h0_10 := h0_10.mono hle24
 refine WC.ret ?_
 refine WQ.drop ?_
 refine WQ.drop ?_
 exact WQ.returnsF h [] rfl (results1 rfl hs24_4) hle24 ⟨rfl, rfl⟩

noncomputable def f_client_Same_l0 (a0 : T_api_Client) (a1 : T_api_Client) (s_ : Int) : Option (Int ⊕ (Unit ⊕ Unit)) :=
  match s_ with
  | x26 =>
    (if (decide (x26 < (a0.Open.length : Int))) = true then (grd (0 ≤ x26 ∧ x26 < a0.Open.length) (grd (0 ≤ x26 ∧ x26 < a1.Open.length) ((f_ask_Same (⟨(rd a0.Open x26).Client, (rd a0.Open x26).Serial, (rd a0.Open x26).Kind, (rd a0.Open x26).Name, (rd a0.Open x26).Key, (rd a0.Open x26).Value, (rd a0.Open x26).Flag, (rd a0.Open x26).Parts, (rd a0.Open x26).Replicas, (rd a0.Open x26).Part, (rd a0.Open x26).Ids, (rd a0.Open x26).Broker, (rd a0.Open x26).Epoch, (rd a0.Open x26).Rack, ((rd a0.Open x26).Word)⟩ : T_api_Request) (⟨(rd a1.Open x26).Client, (rd a1.Open x26).Serial, (rd a1.Open x26).Kind, (rd a1.Open x26).Name, (rd a1.Open x26).Key, (rd a1.Open x26).Value, (rd a1.Open x26).Flag, (rd a1.Open x26).Parts, (rd a1.Open x26).Replicas, (rd a1.Open x26).Part, (rd a1.Open x26).Ids, (rd a1.Open x26).Broker, (rd a1.Open x26).Epoch, (rd a1.Open x26).Rack, ((rd a1.Open x26).Word)⟩ : T_api_Request)).bind fun (r42 : Bool) => (if (!r42) = true then (some (Sum.inr (Sum.inr ()))) else (some (Sum.inl (IntKind.i64.wrap (x26 + (1 : Int))))))))) else (some (Sum.inr (Sum.inl ()))))
noncomputable def f_client_Same (a0 : T_api_Client) (a1 : T_api_Client) : Option Bool :=
  (if (decide ((a0.Open.length : Int) ≠ (a1.Open.length : Int))) = true then (some false) else ((((iter (f_client_Same_l0 a0 a1) (0 : Int)).bind (Sum.elim (fun _ => (some (Sum.inl ()))) (fun _ => (((some false)).bind fun r => some (Sum.inr r))))) : Option (Unit ⊕ Bool)).bind (Sum.elim (fun _ => (((if (decide (a0.Id = a1.Id)) = true then (if (decide (a0.Serial = a1.Serial)) = true then (if (decide (a0.Voters = a1.Voters)) = true then (if (decide (a0.Node = a1.Node)) = true then (some (decide (a0.Tries = a1.Tries))) else (some false)) else (some false)) else (some false)) else (some false)) : Option Bool).bind fun (x48 : Bool) => (some x48))) some)))
def f_client_Same_post (a0 : T_api_Client) (a1 : T_api_Client) (v0_4 v1_4 : Value) : Bool → Value → IM → HL → Prop :=
  fun (r0 : Bool) (v : Value) (M' : IM) (H' : HL) => (.bool r0) = v ∧ H' = []
set_option maxHeartbeats 8000000 in
set_option maxRecDepth 100000 in
theorem f_client_Same_ok (a0 : T_api_Client) (a1 : T_api_Client) (M : IM) (v0_4 v1_4 : Value) (h0_4 : RS kd_api_Request M v0_4 a0.Open) (h1_4 : RS kd_api_Request M v1_4 a1.Open) (res : Bool) (h : f_client_Same a0 a1 = some res) :
    Tri Try.prog 19 #[(.agg #[(.int .i64 a0.Id), (.int .i64 a0.Serial), (.int .i64 a0.Voters), (.int .i64 a0.Node), v0_4, (.int .i64 a0.Tries)]), (.agg #[(.int .i64 a1.Id), (.int .i64 a1.Serial), (.int .i64 a1.Voters), (.int .i64 a1.Node), v1_4, (.int .i64 a1.Tries)])] M [] (f_client_Same_post a0 a1 v0_4 v1_4 res) := by
 unfold f_client_Same at h
 refine Tri.enter (fn := Try.f19) Try.func19 rfl (Nat.le_of_ble_eq_true rfl) ?_
 intro F ρ hρ
 refine Sr ?_
 refine WL.eff (EO.box (cs := #[(.int .i64 a0.Id), (.int .i64 a0.Serial), (.int .i64 a0.Voters), (.int .i64 a0.Node), v0_4, (.int .i64 a0.Tries)]) (congrArg Value.cells (asE (.agg #[(.int .i64 a0.Id), (.int .i64 a0.Serial), (.int .i64 a0.Voters), (.int .i64 a0.Node), v0_4, (.int .i64 a0.Tries)]) (hρ 0)))) rfl ?_
 rintro _ _ _ - ⟨rfl, g21, rfl, rfl⟩
 refine WL.eff (EO.box (cs := #[(.int .i64 a1.Id), (.int .i64 a1.Serial), (.int .i64 a1.Voters), (.int .i64 a1.Node), v1_4, (.int .i64 a1.Tries)]) (congrArg Value.cells (asE (.agg #[(.int .i64 a1.Id), (.int .i64 a1.Serial), (.int .i64 a1.Voters), (.int .i64 a1.Node), v1_4, (.int .i64 a1.Tries)]) (hρ 1)))) rfl ?_
 rintro _ _ _ - ⟨rfl, g22, rfl, rfl⟩
 refine Pa (.bool false) rfl rfl ?_
 refine Nt ?_
 refine WC.seq ?_
 refine Sr ?_
 refine Pu (.pointer (some ⟨g21, 4, none⟩)) (PO.fieldAddr fo24_4 rfl rfl) rfl ?_
 refine Pu v0_4 (PO.loadB 1 pl22 rfl rfl rfl) rfl ?_
 refine Pu (.int .i64 (a0.Open.length : Int)) (PO.lenS Try.underlying22 rfl h0_4.len) rfl ?_
 refine Pu (.pointer (some ⟨g22, 4, none⟩)) (PO.fieldAddr fo24_4 rfl rfl) rfl ?_
 refine Pu v1_4 (PO.loadB 0 pl22 rfl rfl rfl) rfl ?_
 refine Pu (.int .i64 (a1.Open.length : Int)) (PO.lenS Try.underlying22 rfl h1_4.len) rfl ?_
 refine Pu (.bool (decide ((a0.Open.length : Int) ≠ (a1.Open.length : Int)))) (PO.neq rfl rfl) rfl ?_
 refine Nt ?_
 refine WC.cond (b := decide ((a0.Open.length : Int) ≠ (a1.Open.length : Int))) rfl (fun hb23 => ?_) (fun hb23 => ?_)
 have h := ite_t hb23 h
 refine Sr ?_
 refine Pa (.bool false) rfl rfl ?_
 refine Nt ?_
 refine WC.ret ?_
 refine WQ.thenR ?_
 refine WQ.drop ?_
 refine WQ.drop ?_
 exact WQ.returnsF h [] rfl (results1 rfl rfl) (IM.le.refl _) ⟨rfl, rfl⟩
 have h := ite_f hb23 h
 refine WC.skip ?_
 refine WQ.thenC ?_
 obtain ⟨j24, hj24, h⟩ := bnd h
 refine WC.joinE (fun (_ : Unit) ρ' M' H' => M.le M' ∧ [(g22, .cells #[(.int .i64 a1.Id), (.int .i64 a1.Serial), (.int .i64 a1.Voters), (.int .i64 a1.Node), v1_4, (.int .i64 a1.Tries)] 24 (0, 0))] :: [(g21, .cells #[(.int .i64 a0.Id), (.int .i64 a0.Serial), (.int .i64 a0.Voters), (.int .i64 a0.Node), v0_4, (.int .i64 a0.Tries)] 24 (0, 0))] :: F = H' ∧ ρ' 2 = (.pointer (some ⟨g21, 0, none⟩)) ∧ ρ' 3 = (.pointer (some ⟨g22, 0, none⟩))) j24 ?_ ?_
 have h324 := h
 have h := hj24
 refine Sr ?_
 refine Pu (.pointer (some ⟨g21, 4, none⟩)) (PO.fieldAddr fo24_4 rfl rfl) rfl ?_
 refine Pu v0_4 (PO.loadB 1 pl22 rfl rfl rfl) rfl ?_
 refine Pu (.int .i64 (a0.Open.length : Int)) (PO.lenS Try.underlying22 rfl h0_4.len) rfl ?_
 refine Pm (.int .i64 (0 : Int)) rfl rfl ?_
 refine Nt ?_
 refine WC.block ?_
 obtain ⟨e25, he25, hK25⟩ := bnd h
 clear h
 refine WC.loop he25 (fun (x26 : Int) ρ' M' H' => M.le M' ∧ [(g22, .cells #[(.int .i64 a1.Id), (.int .i64 a1.Serial), (.int .i64 a1.Voters), (.int .i64 a1.Node), v1_4, (.int .i64 a1.Tries)] 24 (0, 0))] :: [(g21, .cells #[(.int .i64 a0.Id), (.int .i64 a0.Serial), (.int .i64 a0.Voters), (.int .i64 a0.Node), v0_4, (.int .i64 a0.Tries)] 24 (0, 0))] :: F = H' ∧ ρ' 2 = (.pointer (some ⟨g21, 0, none⟩)) ∧ ρ' 3 = (.pointer (some ⟨g22, 0, none⟩)) ∧ ρ' 15 = (.int .i64 (a0.Open.length : Int)) ∧ ρ' 16 = (.int .i64 x26)) ?_ ?_
 exact ⟨(IM.le.refl _), rfl, rfl, rfl, rfl, rfl⟩
 rintro x26 o25 ρ25 M25 H25 h ⟨hle25, rfl, hs25_2, hs25_3, hs25_15, hs25_16⟩
 unfold f_client_Same_l0 at h
 have h1_4 := h1_4.mono hle25
 have h0_4 := h0_4.mono hle25
 refine Sr ?_
 refine Pu (.bool (decide (x26 < (a0.Open.length : Int)))) (PO.lss hs25_16 hs25_15) rfl ?_
 refine Nt ?_
 refine WC.seq ?_
 refine WC.cond (b := decide (x26 < (a0.Open.length : Int))) rfl (fun hb27 => ?_) (fun hb27 => ?_)
 have h := ite_t hb27 h
 refine WC.skip ?_
 refine WQ.thenC ?_
 refine WC.seq ?_
 refine WC.block ?_
 refine Sr ?_
 refine Pm (.int .i64 x26) hs25_16 rfl ?_
 refine Pa (.int .i64 x26) rfl rfl ?_
 refine Nt ?_
 refine WC.seq ?_
 refine WC.draw [0, 1, 0, 7, 15, 0, 32, 0, 224, 480, 1023, 2047] (.pure 0 (.pure 1 (.pure 2 (.pure 3 (.pure 4 (.pure 5 (.pure 6 (.pure 7 (.pure 8 (.pure 9 (.alt 10 (.pure 11 .done) .none))))))))))) mixed (by kernel_rfl) ?_
 refine Tp (.pointer (some ⟨g21, 4, none⟩)) rfl (PO.fieldAddr fo24_4 hs25_2 rfl) rfl ?_
 refine Tp v0_4 rfl (PO.loadB 1 pl22 rfl rfl rfl) rfl ?_
 refine Tp (.int .i64 x26) rfl (PO.move rfl) rfl ?_
 obtain ⟨hg28, h⟩ := grd_i h
 obtain ⟨p29, cs30, hat31, hrc32, hhas33⟩ := h0_4.at hg28.1 hg28.2 (by decide)
 obtain ⟨vw34_10, rfl, hw34_10⟩ := kd_api_Request_open hrc32
 refine Tp (.pointer (some p29)) rfl (PO.indexAddr (n := a0.Open.length) Try.underlying22 sz29 rfl rfl hg28.1 hg28.2 hat31) rfl ?_
 refine Tp (.agg #[(.int .i64 ((rd a0.Open x26).Client)), (.int .i64 ((rd a0.Open x26).Serial)), (.int .i64 ((rd a0.Open x26).Kind)), (.string ((rd a0.Open x26).Name)), (.string ((rd a0.Open x26).Key)), (.string ((rd a0.Open x26).Value)), (.bool ((rd a0.Open x26).Flag)), (.int .i64 ((rd a0.Open x26).Parts)), (.int .i64 ((rd a0.Open x26).Replicas)), (.int .i64 ((rd a0.Open x26).Part)), vw34_10, (.int .i64 ((rd a0.Open x26).Broker)), (.int .i64 ((rd a0.Open x26).Epoch)), (.string ((rd a0.Open x26).Rack)), (.int .i64 (((rd a0.Open x26).Word).Broker)), (.int .i64 (((rd a0.Open x26).Word).Epoch)), (.int .i64 (((rd a0.Open x26).Word).High)), (.bool (((rd a0.Open x26).Word).Fence)), (.bool (((rd a0.Open x26).Word).Leave))]) rfl (PO.loadMA (cs := [(.int .i64 ((rd a0.Open x26).Client)), (.int .i64 ((rd a0.Open x26).Serial)), (.int .i64 ((rd a0.Open x26).Kind)), (.string ((rd a0.Open x26).Name)), (.string ((rd a0.Open x26).Key)), (.string ((rd a0.Open x26).Value)), (.bool ((rd a0.Open x26).Flag)), (.int .i64 ((rd a0.Open x26).Parts)), (.int .i64 ((rd a0.Open x26).Replicas)), (.int .i64 ((rd a0.Open x26).Part)), vw34_10, (.int .i64 ((rd a0.Open x26).Broker)), (.int .i64 ((rd a0.Open x26).Epoch)), (.string ((rd a0.Open x26).Rack)), (.int .i64 (((rd a0.Open x26).Word).Broker)), (.int .i64 (((rd a0.Open x26).Word).Epoch)), (.int .i64 (((rd a0.Open x26).Word).High)), (.bool (((rd a0.Open x26).Word).Fence)), (.bool (((rd a0.Open x26).Word).Leave))]) ag29 sz29 rfl hhas33) rfl ?_
 refine Tp (.pointer (some ⟨g22, 4, none⟩)) rfl (PO.fieldAddr fo24_4 hs25_3 rfl) rfl ?_
 refine Tp v1_4 rfl (PO.loadB 0 pl22 rfl rfl rfl) rfl ?_
 refine Tp (.int .i64 x26) rfl (PO.move rfl) rfl ?_
 obtain ⟨hg35, h⟩ := grd_i h
 obtain ⟨p36, cs37, hat38, hrc39, hhas40⟩ := h1_4.at hg35.1 hg35.2 (by decide)
 obtain ⟨vw41_10, rfl, hw41_10⟩ := kd_api_Request_open hrc39
 refine Tp (.pointer (some p36)) rfl (PO.indexAddr (n := a1.Open.length) Try.underlying22 sz29 rfl rfl hg35.1 hg35.2 hat38) rfl ?_
 refine Tp (.agg #[(.int .i64 ((rd a1.Open x26).Client)), (.int .i64 ((rd a1.Open x26).Serial)), (.int .i64 ((rd a1.Open x26).Kind)), (.string ((rd a1.Open x26).Name)), (.string ((rd a1.Open x26).Key)), (.string ((rd a1.Open x26).Value)), (.bool ((rd a1.Open x26).Flag)), (.int .i64 ((rd a1.Open x26).Parts)), (.int .i64 ((rd a1.Open x26).Replicas)), (.int .i64 ((rd a1.Open x26).Part)), vw41_10, (.int .i64 ((rd a1.Open x26).Broker)), (.int .i64 ((rd a1.Open x26).Epoch)), (.string ((rd a1.Open x26).Rack)), (.int .i64 (((rd a1.Open x26).Word).Broker)), (.int .i64 (((rd a1.Open x26).Word).Epoch)), (.int .i64 (((rd a1.Open x26).Word).High)), (.bool (((rd a1.Open x26).Word).Fence)), (.bool (((rd a1.Open x26).Word).Leave))]) rfl (PO.loadMA (cs := [(.int .i64 ((rd a1.Open x26).Client)), (.int .i64 ((rd a1.Open x26).Serial)), (.int .i64 ((rd a1.Open x26).Kind)), (.string ((rd a1.Open x26).Name)), (.string ((rd a1.Open x26).Key)), (.string ((rd a1.Open x26).Value)), (.bool ((rd a1.Open x26).Flag)), (.int .i64 ((rd a1.Open x26).Parts)), (.int .i64 ((rd a1.Open x26).Replicas)), (.int .i64 ((rd a1.Open x26).Part)), vw41_10, (.int .i64 ((rd a1.Open x26).Broker)), (.int .i64 ((rd a1.Open x26).Epoch)), (.string ((rd a1.Open x26).Rack)), (.int .i64 (((rd a1.Open x26).Word).Broker)), (.int .i64 (((rd a1.Open x26).Word).Epoch)), (.int .i64 (((rd a1.Open x26).Word).High)), (.bool (((rd a1.Open x26).Word).Fence)), (.bool (((rd a1.Open x26).Word).Leave))]) ag29 sz29 rfl hhas40) rfl ?_
 obtain ⟨r42, hr43, h⟩ := bnd h
 refine WT.alt rfl (EO.call0 co32 (f_ask_Same_ok (⟨(rd a0.Open x26).Client, (rd a0.Open x26).Serial, (rd a0.Open x26).Kind, (rd a0.Open x26).Name, (rd a0.Open x26).Key, (rd a0.Open x26).Value, (rd a0.Open x26).Flag, (rd a0.Open x26).Parts, (rd a0.Open x26).Replicas, (rd a0.Open x26).Part, (rd a0.Open x26).Ids, (rd a0.Open x26).Broker, (rd a0.Open x26).Epoch, (rd a0.Open x26).Rack, ((rd a0.Open x26).Word)⟩ : T_api_Request) (⟨(rd a1.Open x26).Client, (rd a1.Open x26).Serial, (rd a1.Open x26).Kind, (rd a1.Open x26).Name, (rd a1.Open x26).Key, (rd a1.Open x26).Value, (rd a1.Open x26).Flag, (rd a1.Open x26).Parts, (rd a1.Open x26).Replicas, (rd a1.Open x26).Part, (rd a1.Open x26).Ids, (rd a1.Open x26).Broker, (rd a1.Open x26).Epoch, (rd a1.Open x26).Rack, ((rd a1.Open x26).Word)⟩ : T_api_Request) _ _ _ hw34_10 hw41_10 r42 hr43) (args2 rfl rfl)) rfl ?_ ?_
 rintro _ M44 _ hle45 ⟨_, ⟨rfl, rfl⟩, rfl⟩
 have h0_4 := h0_4.mono hle45
 have hhas33 := hhas33.mono hle45
 have hw34_10 := hw34_10.mono hle45
 have h1_4 := h1_4.mono hle45
 have hhas40 := hhas40.mono hle45
 have hw41_10 := hw41_10.mono hle45
 refine ⟨(StabL.anc rfl (StabL.anc rfl (StabL.anc rfl (StabL.anc rfl (StabL.anc rfl (StabL.anc rfl (StabL.anc rfl (StabL.anc rfl (StabL.anc rfl (StabL.anc rfl trivial)))))))))), ?_⟩
 refine WT.a0 ?_
 refine Tp (.bool (!r42)) rfl (PO.not rfl) rfl ?_
 refine WT.fin ?_
 refine WQ.thenC ?_
 refine WC.cond (b := !r42) rfl (fun hb47 => ?_) (fun hb47 => ?_)
 have h := ite_t hb47 h
 refine Sr ?_
 refine Pa (.bool false) rfl rfl ?_
 refine Nt ?_
 refine WC.ret ?_
 refine WQ.blockR ?_
 refine WQ.thenR ?_
 refine WQ.leaveR (Sum.inr ()) (Option.some.inj h).symm (fun heq25 => ?_)
 subst heq25
 have h := (elimR hK25)
 refine WQ.blockR ?_
 refine WQ.thenR ?_
 have h := KK.early h h324
 refine WQ.drop ?_
 refine WQ.drop ?_
 exact WQ.returnsF h [] rfl (results1 rfl rfl) (hle25.trans hle45) ⟨rfl, rfl⟩
 have h := ite_f hb47 h
 refine WC.skip ?_
 refine WQ.blockN ?_
 refine WQ.thenC ?_
 refine WC.region ?_
 refine Pu (.int .i64 (IntKind.i64.wrap (x26 + (1 : Int)))) (PO.add hs25_16 rfl) rfl ?_
 refine Pm (.int .i64 (IntKind.i64.wrap (x26 + (1 : Int)))) rfl rfl ?_
 refine WL.nil ?_
 refine WQ.again (IntKind.i64.wrap (x26 + (1 : Int))) (Option.some.inj h).symm ?_
 exact ⟨(hle25.trans hle45), rfl, hs25_2, hs25_3, hs25_15, rfl⟩
 exact WT.no
 have h := ite_f hb27 h
 refine WC.exit ?_
 refine WQ.thenE ?_
 refine WQ.leaveE (Sum.inl ()) (Option.some.inj h).symm (fun heq25 => ?_)
 subst heq25
 have h := elimL hK25
 refine WQ.blockH ?_
 refine WQ.thenFE h ?_
 exact ⟨hle25, rfl, hs25_2, hs25_3⟩
 rintro _ ρ24 M24 H24 rfl ⟨hle24, rfl, hs24_2, hs24_3⟩
 have h1_4 := h1_4.mono hle24
 have h0_4 := h0_4.mono hle24
 obtain ⟨x48, hj49, h⟩ := bnd h
 refine WC.joinF (fun (x48 : Bool) ρ' M' H' => M24.le M' ∧ [(g22, .cells #[(.int .i64 a1.Id), (.int .i64 a1.Serial), (.int .i64 a1.Voters), (.int .i64 a1.Node), v1_4, (.int .i64 a1.Tries)] 24 (0, 0))] :: [(g21, .cells #[(.int .i64 a0.Id), (.int .i64 a0.Serial), (.int .i64 a0.Voters), (.int .i64 a0.Node), v0_4, (.int .i64 a0.Tries)] 24 (0, 0))] :: F = H' ∧ ρ' 4 = (.bool x48)) x48 ?_ ?_
 have h349 := h
 have h := hj49
 refine WC.region ?_
 refine Pu (.pointer (some ⟨g21, 0, none⟩)) (PO.fieldAddr fo24_0 hs24_2 rfl) rfl ?_
 refine Pu (.int .i64 a0.Id) (PO.loadB 1 pl3 rfl rfl rfl) rfl ?_
 refine Pu (.pointer (some ⟨g22, 0, none⟩)) (PO.fieldAddr fo24_0 hs24_3 rfl) rfl ?_
 refine Pu (.int .i64 a1.Id) (PO.loadB 0 pl3 rfl rfl rfl) rfl ?_
 refine Pu (.bool (decide (a0.Id = a1.Id))) (PO.eql rfl rfl) rfl ?_
 refine Pm (.bool (decide (a0.Id = a1.Id))) rfl rfl ?_
 rcases Bool.eq_false_or_eq_true (decide (a0.Id = a1.Id)) with hb50 | hb50
 have h := ite_t hb50 h
 refine On 37 rfl rfl hb50 ?_
 refine Pu (.pointer (some ⟨g21, 1, none⟩)) (PO.fieldAddr fo24_1 hs24_2 rfl) rfl ?_
 refine On 37 rfl rfl hb50 ?_
 refine Pu (.int .i64 a0.Serial) (PO.loadB 1 pl3 rfl rfl rfl) rfl ?_
 refine On 37 rfl rfl hb50 ?_
 refine Pu (.pointer (some ⟨g22, 1, none⟩)) (PO.fieldAddr fo24_1 hs24_3 rfl) rfl ?_
 refine On 37 rfl rfl hb50 ?_
 refine Pu (.int .i64 a1.Serial) (PO.loadB 0 pl3 rfl rfl rfl) rfl ?_
 refine On 37 rfl rfl hb50 ?_
 refine Pu (.bool (decide (a0.Serial = a1.Serial))) (PO.eql rfl rfl) rfl ?_
 refine Pu (.bool (decide (a0.Serial = a1.Serial))) (PO.pickT rfl hb50 rfl) rfl ?_
 refine Pm (.bool (decide (a0.Serial = a1.Serial))) rfl rfl ?_
 rcases Bool.eq_false_or_eq_true (decide (a0.Serial = a1.Serial)) with hb51 | hb51
 have h := ite_t hb51 h
 refine On 44 rfl rfl hb51 ?_
 refine Pu (.pointer (some ⟨g21, 2, none⟩)) (PO.fieldAddr fo24_2 hs24_2 rfl) rfl ?_
 refine On 44 rfl rfl hb51 ?_
 refine Pu (.int .i64 a0.Voters) (PO.loadB 1 pl3 rfl rfl rfl) rfl ?_
 refine On 44 rfl rfl hb51 ?_
 refine Pu (.pointer (some ⟨g22, 2, none⟩)) (PO.fieldAddr fo24_2 hs24_3 rfl) rfl ?_
 refine On 44 rfl rfl hb51 ?_
 refine Pu (.int .i64 a1.Voters) (PO.loadB 0 pl3 rfl rfl rfl) rfl ?_
 refine On 44 rfl rfl hb51 ?_
 refine Pu (.bool (decide (a0.Voters = a1.Voters))) (PO.eql rfl rfl) rfl ?_
 refine Pu (.bool (decide (a0.Voters = a1.Voters))) (PO.pickT rfl hb51 rfl) rfl ?_
 refine Pm (.bool (decide (a0.Voters = a1.Voters))) rfl rfl ?_
 rcases Bool.eq_false_or_eq_true (decide (a0.Voters = a1.Voters)) with hb52 | hb52
 have h := ite_t hb52 h
 refine On 51 rfl rfl hb52 ?_
 refine Pu (.pointer (some ⟨g21, 3, none⟩)) (PO.fieldAddr fo24_3 hs24_2 rfl) rfl ?_
 refine On 51 rfl rfl hb52 ?_
 refine Pu (.int .i64 a0.Node) (PO.loadB 1 pl3 rfl rfl rfl) rfl ?_
 refine On 51 rfl rfl hb52 ?_
 refine Pu (.pointer (some ⟨g22, 3, none⟩)) (PO.fieldAddr fo24_3 hs24_3 rfl) rfl ?_
 refine On 51 rfl rfl hb52 ?_
 refine Pu (.int .i64 a1.Node) (PO.loadB 0 pl3 rfl rfl rfl) rfl ?_
 refine On 51 rfl rfl hb52 ?_
 refine Pu (.bool (decide (a0.Node = a1.Node))) (PO.eql rfl rfl) rfl ?_
 refine Pu (.bool (decide (a0.Node = a1.Node))) (PO.pickT rfl hb52 rfl) rfl ?_
 refine Pm (.bool (decide (a0.Node = a1.Node))) rfl rfl ?_
 rcases Bool.eq_false_or_eq_true (decide (a0.Node = a1.Node)) with hb53 | hb53
 have h := ite_t hb53 h
 refine On 58 rfl rfl hb53 ?_
 refine Pu (.pointer (some ⟨g21, 5, none⟩)) (PO.fieldAddr fo24_5 hs24_2 rfl) rfl ?_
 refine On 58 rfl rfl hb53 ?_
 refine Pu (.int .i64 a0.Tries) (PO.loadB 1 pl3 rfl rfl rfl) rfl ?_
 refine On 58 rfl rfl hb53 ?_
 refine Pu (.pointer (some ⟨g22, 5, none⟩)) (PO.fieldAddr fo24_5 hs24_3 rfl) rfl ?_
 refine On 58 rfl rfl hb53 ?_
 refine Pu (.int .i64 a1.Tries) (PO.loadB 0 pl3 rfl rfl rfl) rfl ?_
 refine On 58 rfl rfl hb53 ?_
 refine Pu (.bool (decide (a0.Tries = a1.Tries))) (PO.eql rfl rfl) rfl ?_
 refine Pu (.bool (decide (a0.Tries = a1.Tries))) (PO.pickT rfl hb53 rfl) rfl ?_
 refine Pa (.bool (decide (a0.Tries = a1.Tries))) rfl rfl ?_
 refine WL.nil ?_
 obtain rfl := Option.some.inj h
 refine WQ.thenJ ?_
 exact ⟨(IM.le.refl _), rfl, rfl⟩
 have h := ite_f hb53 h
 iterate 5 refine Of 58 rfl rfl hb53 rfl ?_
 refine Pu (.bool false) (PO.pickF rfl hb53 rfl) rfl ?_
 refine Pa (.bool false) rfl rfl ?_
 refine WL.nil ?_
 obtain rfl := Option.some.inj h
 refine WQ.thenJ ?_
 exact ⟨(IM.le.refl _), rfl, rfl⟩
 have h := ite_f hb52 h
 iterate 5 refine Of 51 rfl rfl hb52 rfl ?_
 refine Pu (.bool false) (PO.pickF rfl hb52 rfl) rfl ?_
 refine Pm (.bool false) rfl rfl ?_
 iterate 5 refine Of 58 rfl rfl rfl rfl ?_
 refine Pu (.bool false) (PO.pickF rfl rfl rfl) rfl ?_
 refine Pa (.bool false) rfl rfl ?_
 refine WL.nil ?_
 obtain rfl := Option.some.inj h
 refine WQ.thenJ ?_
 exact ⟨(IM.le.refl _), rfl, rfl⟩
 have h := ite_f hb51 h
 iterate 5 refine Of 44 rfl rfl hb51 rfl ?_
 refine Pu (.bool false) (PO.pickF rfl hb51 rfl) rfl ?_
 refine Pm (.bool false) rfl rfl ?_
 iterate 5 refine Of 51 rfl rfl rfl rfl ?_
 refine Pu (.bool false) (PO.pickF rfl rfl rfl) rfl ?_
 refine Pm (.bool false) rfl rfl ?_
 iterate 5 refine Of 58 rfl rfl rfl rfl ?_
 refine Pu (.bool false) (PO.pickF rfl rfl rfl) rfl ?_
 refine Pa (.bool false) rfl rfl ?_
 refine WL.nil ?_
 obtain rfl := Option.some.inj h
 refine WQ.thenJ ?_
 exact ⟨(IM.le.refl _), rfl, rfl⟩
 have h := ite_f hb50 h
 iterate 5 refine Of 37 rfl rfl hb50 rfl ?_
 refine Pu (.bool false) (PO.pickF rfl hb50 rfl) rfl ?_
 refine Pm (.bool false) rfl rfl ?_
 iterate 5 refine Of 44 rfl rfl rfl rfl ?_
 refine Pu (.bool false) (PO.pickF rfl rfl rfl) rfl ?_
 refine Pm (.bool false) rfl rfl ?_
 iterate 5 refine Of 51 rfl rfl rfl rfl ?_
 refine Pu (.bool false) (PO.pickF rfl rfl rfl) rfl ?_
 refine Pm (.bool false) rfl rfl ?_
 iterate 5 refine Of 58 rfl rfl rfl rfl ?_
 refine Pu (.bool false) (PO.pickF rfl rfl rfl) rfl ?_
 refine Pa (.bool false) rfl rfl ?_
 refine WL.nil ?_
 obtain rfl := Option.some.inj h
 refine WQ.thenJ ?_
 exact ⟨(IM.le.refl _), rfl, rfl⟩
 rintro ρ49 M49 H49 ⟨hle49, rfl, hs49_4⟩
 have h1_4 := h1_4.mono hle49
 have h0_4 := h0_4.mono hle49
 refine WC.ret ?_
 refine WQ.drop ?_
 refine WQ.drop ?_
 exact WQ.returnsF h [] rfl (results1 rfl hs49_4) (hle24.trans hle49) ⟨rfl, rfl⟩


end Go.Proofs.Ytdlilclopmhiaaa.G
