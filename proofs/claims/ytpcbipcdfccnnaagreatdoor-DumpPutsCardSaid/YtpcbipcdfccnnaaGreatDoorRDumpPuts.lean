/- The law DumpPuts of this seat holds for every input, and so does its tied card: the walk of its code joined with the plain theorem on what the code computes; no condition but that the listed variable holds what the card ties it to. -/
import Derived.Test.YtpcbipcdfccnnaaGreatDoorTie
import Derived.Test.YtpcbipcdfccnnaaGreatDoorCards
import Derived.Test.YtpcbipcdfccnnaaGreatDoorD
import Derived.Test.YtpcbipcdfccnnaaGreatDoorLDPutsAll
import Derived.ShutString
import Derived.SevenTiedAt
namespace Go.Proofs.YtpcbipcdfccnnaaGreatDoor.dumpPuts
open Go Go.KK Go.Proofs.YtpcbipcdfccnnaaGreatDoor.G
open Go.ChangeShapes Go.WideShapes Go.ChangeAt Go.RowKit
open Go.ChangeMaps (open_string shut_string)
set_option linter.unusedVariables false
theorem JaR {P : Program} {t : TypeId} {fs : Array Field} {α : Type} {d : Kd α} {ok : α → Prop} (ht : P.underlying t = some (.struct fs)) (h : Opens P t d ok) {H : Type} {enc : TypeId × Value → H} {w : World} {base : Nat} {spare : Nat → Bool} {held : Bool} {r : Reach} {b0 : Nat} {v : Value} {x : DataW H} {p : List MemPlace}
    (hv : Value.okWide P w r b0 t v) (hd : DataW.Trod enc P w base spare held t v x p) (hw : ∀ n ∈ x.weights P t, n ≤ reachBytes) : ∃ cs a, v = .agg cs ∧ d.rc (IM.of w) cs.toList a ∧ ok a := by
  obtain ⟨cs, rfl, _⟩ := WideShapes.okWide_struct ht hv
  obtain ⟨fuel, hf⟩ := hd
  obtain ⟨a, h1, h2⟩ := h _ enc w base spare held fuel _ _ hf hw
  exact ⟨cs, a, rfl, h1, h2⟩
set_option maxRecDepth 100000 in
theorem Q8Z (os : Os) (started : os.Started) (H : Type) (enc : TypeId × Value → H) :
    ReturnsInHanded {} Tryz.checked os 4 .any (fun w args => (Rows.dumpPutsSpec.pre enc Tryz.prog Tryz.f4 [] false w args ∧ laidMetH Tryz.prog Q1W w) ∧ sizedMet enc Tryz.prog Tryz.f4 (OpenSpec.ofChange Rows.dumpPutsSpec) false w args)
      (Rows.dumpPutsSpec.post enc Tryz.prog Tryz.f4 false true false false) := by
  refine returnsInHanded_of_change_and (C := Tryz.checked) (X := fun w _ => laidMetH Tryz.prog Q1W w) (fun _ _ _ hh h => h.of_heap hh) own started (by kernel_rfl) Tryz.func4
    (ChangeSpec.witness_at (enc := enc) (C := Tryz.checked) (os := os) (X := fun w _ => laidMetH Tryz.prog Q1W w) false (Qy5 os) #[(.agg #[(.slice none 0 0), (.slice none 0 0), (.slice none 0 0), (.slice none 0 0), (.int .i64 (0 : Int))])] 8 rfl (by kernel_rfl) (by kernel_rfl) (by kernel_rfl) (by kernel_rfl) (by kernel_rfl) (QxZ os _)) ?_
  intro W base args ds gs before hval0 hW hcnd hsz0 hL _
  have hsz : (DataW.weightsEach Tryz.prog (Tryz.f4.params.toList ++ Rows.dumpPutsSpec.plain.varTypes Tryz.prog) (ds ++ gs)).all (· ≤ reachBytes) = true := hsz0
  have hval : ∀ (j : Nat) t v, Tryz.f4.params[j]? = some t → args[j]? = some v → Value.okWide Tryz.prog W .any base t v := hval0
  have hW' := hW
  obtain ⟨p, q, hA0, hV, rfl, hfz, hnd⟩ := hW
  have hA : DataW.TrodAll enc Tryz.prog W 0 (fun _ => true) true Tryz.f4.params.toList args.toList ds p := hA0
  rw [Tryz.params4] at hA hval hsz
  obtain ⟨v0, vs0, d0, ds0, p0, q0, hargs, rfl, rfl, h0, r0⟩ := trodAll_cons hA
  obtain ⟨rfl, rfl, rfl⟩ := trodAll_nil r0
  obtain rfl : args = #[v0] := by cases args; simp_all
  obtain ⟨rfl, rfl⟩ := trodVars_none hV
  obtain ⟨cs0, z0, rfl, y0, o0⟩ := JaR Tryz.underlying27 (show Opens Tryz.prog 27 QnS _ from Opens.struct (mk := fun a => ⟨a.1, a.2.1, a.2.2.1, a.2.2.2.1, a.2.2.2.2.1⟩) Tryz.underlying27 (by kernel_rfl) (OpensF.cons rfl (by kernel_rfl) (Opens.slice Tryz.underlying22 (by kernel_rfl) (Nat.le_of_ble_eq_true (by kernel_rfl)) (show Opens Tryz.prog 71 QaD _ from Opens.struct (mk := fun a => ⟨a.1, a.2.1, a.2.2.1, a.2.2.2.1, a.2.2.2.2.1⟩) Tryz.underlying71 (by kernel_rfl) (OpensF.cons rfl (by kernel_rfl) (Opens.int Tryz.underlying3) (OpensF.cons rfl (by kernel_rfl) (Opens.int Tryz.underlying3) (OpensF.cons rfl (by kernel_rfl) (Opens.str Tryz.underlying9) (OpensF.cons rfl (by kernel_rfl) (Opens.bool Tryz.underlying4) (OpensF.cons rfl (by kernel_rfl) (Opens.bool Tryz.underlying4) OpensF.nil))))) (fun a => rfl))) (OpensF.cons rfl (by kernel_rfl) (Opens.slice Tryz.underlying23 (by kernel_rfl) (Nat.le_of_ble_eq_true (by kernel_rfl)) (show Opens Tryz.prog 55 QaG _ from Opens.struct (mk := fun a => ⟨a.1, a.2.1, a.2.2.1⟩) Tryz.underlying55 (by kernel_rfl) (OpensF.cons rfl (by kernel_rfl) (Opens.int Tryz.underlying3) (OpensF.cons rfl (by kernel_rfl) (Opens.str Tryz.underlying9) (OpensF.cons rfl (by kernel_rfl) (Opens.slice Tryz.underlying53 (by kernel_rfl) (Nat.le_of_ble_eq_true (by kernel_rfl)) (show Opens Tryz.prog 58 QbF _ from Opens.struct (mk := fun a => ⟨a.1, a.2.1, a.2.2.1, a.2.2.2.1, a.2.2.2.2.1, a.2.2.2.2.2.1⟩) Tryz.underlying58 (by kernel_rfl) (OpensF.cons rfl (by kernel_rfl) (Opens.slice Tryz.underlying56 (by kernel_rfl) (Nat.le_of_ble_eq_true (by kernel_rfl)) (Opens.int Tryz.underlying3)) (OpensF.cons rfl (by kernel_rfl) (Opens.slice Tryz.underlying56 (by kernel_rfl) (Nat.le_of_ble_eq_true (by kernel_rfl)) (Opens.int Tryz.underlying3)) (OpensF.cons rfl (by kernel_rfl) (Opens.int Tryz.underlying3) (OpensF.cons rfl (by kernel_rfl) (Opens.int Tryz.underlying3) (OpensF.cons rfl (by kernel_rfl) (Opens.slice Tryz.underlying56 (by kernel_rfl) (Nat.le_of_ble_eq_true (by kernel_rfl)) (Opens.int Tryz.underlying3)) (OpensF.cons rfl (by kernel_rfl) (Opens.slice Tryz.underlying56 (by kernel_rfl) (Nat.le_of_ble_eq_true (by kernel_rfl)) (Opens.int Tryz.underlying3)) OpensF.nil)))))) (fun a => rfl))) OpensF.nil))) (fun a => rfl))) (OpensF.cons rfl (by kernel_rfl) (Opens.slice Tryz.underlying24 (by kernel_rfl) (Nat.le_of_ble_eq_true (by kernel_rfl)) (show Opens Tryz.prog 76 QaF _ from Opens.struct (mk := fun a => ⟨a.1, a.2.1, a.2.2.1⟩) Tryz.underlying76 (by kernel_rfl) (OpensF.cons rfl (by kernel_rfl) (Opens.int Tryz.underlying3) (OpensF.cons rfl (by kernel_rfl) (Opens.str Tryz.underlying9) (OpensF.cons rfl (by kernel_rfl) (Opens.str Tryz.underlying9) OpensF.nil))) (fun a => rfl))) (OpensF.cons rfl (by kernel_rfl) (Opens.slice Tryz.underlying25 (by kernel_rfl) (Nat.le_of_ble_eq_true (by kernel_rfl)) (show Opens Tryz.prog 67 QaI _ from Opens.struct (mk := fun a => ⟨a.1, a.2.1, a.2.2.1⟩) Tryz.underlying67 (by kernel_rfl) (OpensF.cons rfl (by kernel_rfl) (Opens.int Tryz.underlying3) (OpensF.cons rfl (by kernel_rfl) (Opens.int Tryz.underlying3) (OpensF.cons rfl (by kernel_rfl) (Opens.int Tryz.underlying3) OpensF.nil))) (fun a => rfl))) (OpensF.cons rfl (by kernel_rfl) (Opens.int Tryz.underlying3) OpensF.nil))))) (fun a => rfl)) (hval 0 27 v0 rfl rfl) h0 (fun n hn => by simpa using List.all_eq_true.1 hsz _ (DataW.weights_mem_each (j := 0) (t := 27) rfl rfl n hn))
  obtain ⟨_, _, e0, ⟨v0_0, rfl, h0_0⟩, ⟨_, _, rfl, ⟨v0_1, rfl, h0_1⟩, ⟨_, _, rfl, ⟨v0_2, rfl, h0_2⟩, ⟨_, _, rfl, ⟨v0_3, rfl, h0_3⟩, ⟨_, _, rfl, rfl, rfl⟩⟩⟩⟩⟩ := y0
  obtain rfl : cs0 = #[v0_0, v0_1, v0_2, v0_3, .int .i64 z0.Last] := Array.toList_inj.1 e0
  have k0 := h0
  have lt0 : ∀ x ∈ p0, x.block < W.heap.size := by obtain ⟨m, hm⟩ := k0; exact DataW.trod_lt m _ _ _ hm
  have hE : Env (IM.of W) := by
    show (IM.of W).cell ⟨0, 0, none⟩ = _
    rw [Q10]
    exact Qv3 hL
  have law := Tri.law (.bool true) (QpQ z0 (IM.of W) v0_0 v0_1 v0_2 v0_3 h0_0 h0_1 h0_2 h0_3 hE true (QxY z0 o0)) (fun u M' H' hp => (And.left (show (Value.bool true = u) ∧ _ from hp)).symm)
  refine law.mono fun e W' ⟨he, bel⟩ => ?_
  subst he
  exact ⟨_, rfl, _, _, _, [], _, [], hW', trodAll_mk1 (shut_bool Tryz.underlying4 _), (trodAll_cons_mk (Below.trod Q65 (by kernel_rfl) (of_decide_eq_true (by kernel_rfl)) k0 bel lt0) trodAll_mk0), rfl, bel.frame _, fun h => by cases h⟩
theorem over : Rows.DumpPutsSaid :=
  OpenClaim.holds_of_wide 4 Tryz.f4 rfl rfl rfl rfl rfl rfl rfl ⟨rfl, rfl, rfl, rfl, rfl⟩ rfl rfl rfl rfl rfl (by kernel_rfl) Tryz.func4 (by kernel_rfl)
    (of_decide_eq_true (by kernel_rfl)) (by unfold Func.isWrapper; first | (rw [if_pos (by decide +kernel)]; kernel_rfl) | (rw [if_neg (by decide +kernel)]; exact ⟨rfl, rfl⟩))
    (fun os started H enc _ => Q8Z os started H enc)
theorem card : Rows.DumpPutsCardSaid :=
  Claim7.holds_tied_plain_at .later [] [.handle] true (true, "d429b606df52d94c162d9eea2373992b369f17627931ae001652f71522bda324") true
    over (fun _ h => by cases h) (by kernel_rfl) (fun _ h => by cases h) dumpPuts_row_tie rfl ⟨rfl, rfl⟩ (by kernel_rfl) rfl
    (fun f fn hf hfn => by
      obtain rfl : f = 4 := Option.some.inj ((show Tryz.prog.funcNamed "castellan/castellanlaw16.DumpPuts" = some 4 by kernel_rfl).symm.trans hf) |>.symm
      obtain rfl : fn = Tryz.f4 := (Option.some.inj (Tryz.func4.symm.trans hfn)).symm
      exact ⟨by kernel_rfl, fun j t ht => by
        rw [Tryz.params4] at ht
        have hm : t ∈ [27] := by simpa using Array.mem_of_getElem? ht
        have ha : ([27] : List TypeId).all (fun t => !Tryz.prog.wantsStandIn t) = true := by kernel_rfl
        have hb := List.all_eq_true.1 ha t hm
        exact (show Tryz.prog.wantsStandIn t = false by simpa using hb)⟩)
    (by kernel_rfl)
#print axioms card
end Go.Proofs.YtpcbipcdfccnnaaGreatDoor.dumpPuts
namespace Go.Proofs.YtpcbipcdfccnnaaGreatDoor
/-- The tied card, under a short name, for the claim. -/
theorem Q3V : Rows.DumpPutsCardSaid := dumpPuts.card
end Go.Proofs.YtpcbipcdfccnnaaGreatDoor
