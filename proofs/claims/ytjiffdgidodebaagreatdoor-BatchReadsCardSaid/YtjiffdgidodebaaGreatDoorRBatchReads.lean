/- The law BatchReads of this seat holds for every input, and so does its tied card: the walk of its code joined with the plain theorem on what the code computes; no condition but that the listed variable holds what the card ties it to. -/
import Derived.Test.YtjiffdgidodebaaGreatDoorTie
import Derived.Test.YtjiffdgidodebaaGreatDoorCards
import Derived.Test.YtjiffdgidodebaaGreatDoorD
import Derived.Test.YtjiffdgidodebaaGreatDoorLBReadAll
import Derived.ShutString
import Derived.SevenTiedAt
namespace Go.Proofs.YtjiffdgidodebaaGreatDoor.batchReads
open Go Go.KK Go.Proofs.YtjiffdgidodebaaGreatDoor.G
open Go.ChangeShapes Go.WideShapes Go.ChangeAt Go.RowKit
open Go.ChangeMaps (open_string shut_string)
set_option linter.unusedVariables false
set_option maxRecDepth 100000 in
theorem lifted (os : Os) (started : os.Started) (H : Type) (enc : TypeId × Value → H) :
    ReturnsInHanded {} Tryz.checked os 5 .any (fun w args => (Rows.batchReadsSpec.pre enc Tryz.prog Tryz.f5 [] false w args ∧ laidMetH Tryz.prog laidL w) ∧ sizedMet enc Tryz.prog Tryz.f5 (OpenSpec.ofChange Rows.batchReadsSpec) false w args)
      (Rows.batchReadsSpec.post enc Tryz.prog Tryz.f5 false true false false) := by
  refine returnsInHanded_of_change_and (C := Tryz.checked) (X := fun w _ => laidMetH Tryz.prog laidL w) (fun _ _ _ hh h => h.of_heap hh) own started (by kernel_rfl) Tryz.func5
    (ChangeSpec.witness_at (enc := enc) (C := Tryz.checked) (os := os) (X := fun w _ => laidMetH Tryz.prog laidL w) false (laidWorld os) #[.slice none 0 0] 8 rfl (by kernel_rfl) (by kernel_rfl) (by kernel_rfl) (by kernel_rfl) (by kernel_rfl) (laidWorld_met os _)) ?_
  intro W base args ds gs before hval0 hW hcnd hsz0 hL _
  have hsz : (DataW.weightsEach Tryz.prog (Tryz.f5.params.toList ++ Rows.batchReadsSpec.plain.varTypes Tryz.prog) (ds ++ gs)).all (· ≤ reachBytes) = true := hsz0
  have hval : ∀ (j : Nat) t v, Tryz.f5.params[j]? = some t → args[j]? = some v → Value.okWide Tryz.prog W .any base t v := hval0
  have hW' := hW
  obtain ⟨p, q, hA0, hV, rfl, hfz, hnd⟩ := hW
  have hA : DataW.TrodAll enc Tryz.prog W 0 (fun _ => true) true Tryz.f5.params.toList args.toList ds p := hA0
  rw [Tryz.params5] at hA hval hsz
  obtain ⟨v0, vs0, d0, ds0, p0, q0, hargs, rfl, rfl, h0, r0⟩ := trodAll_cons hA
  obtain ⟨rfl, rfl, rfl⟩ := trodAll_nil r0
  obtain rfl : args = #[v0] := by cases args; simp_all
  obtain ⟨rfl, rfl⟩ := trodVars_none hV
  obtain ⟨z0, w0, o0⟩ := Opens.arg Tryz.underlying40 (Opens.slice Tryz.underlying40 (by kernel_rfl) (Nat.le_of_ble_eq_true (by kernel_rfl)) (Opens.int Tryz.underlying5)) (hval 0 40 v0 rfl rfl) h0 (fun n hn => by simpa using List.all_eq_true.1 hsz _ (DataW.weights_mem_each (j := 0) (t := 40) rfl rfl n hn))
  have k0 := h0
  have lt0 : ∀ x ∈ p0, x.block < W.heap.size := by obtain ⟨m, hm⟩ := k0; exact DataW.trod_lt m _ _ _ hm
  have hE : Env (IM.of W) := by
    show (IM.of W).cell ⟨0, 0, none⟩ = _
    rw [cell_of]
    exact handle_of_laid hL
  have law := Tri.law (.bool true) (f_law06_BatchReads_ok z0 (IM.of W) v0 w0 hE true (pure_BatchReads z0 o0)) (fun u M' H' hp => (And.left (show (Value.bool true = u) ∧ _ from hp)).symm)
  refine law.mono fun e W' ⟨he, bel⟩ => ?_
  subst he
  exact ⟨_, rfl, _, _, _, [], _, [], hW', trodAll_mk1 (shut_bool Tryz.underlying4 _), (trodAll_cons_mk (Below.trod laidOut (by kernel_rfl) (of_decide_eq_true (by kernel_rfl)) k0 bel lt0) trodAll_mk0), rfl, bel.frame _, fun h => by cases h⟩
theorem over : Rows.BatchReadsSaid :=
  OpenClaim.holds_of_wide 5 Tryz.f5 rfl rfl rfl rfl rfl rfl rfl ⟨rfl, rfl, rfl, rfl, rfl⟩ rfl rfl rfl rfl rfl (by kernel_rfl) Tryz.func5 (by kernel_rfl)
    (of_decide_eq_true (by kernel_rfl)) (by unfold Func.isWrapper; first | (rw [if_pos (by decide +kernel)]; kernel_rfl) | (rw [if_neg (by decide +kernel)]; exact ⟨rfl, rfl⟩))
    (fun os started H enc _ => lifted os started H enc)
theorem card : Rows.BatchReadsCardSaid :=
  Claim7.holds_tied_plain_at .later [] [.handle] true (true, "0853cefdefb9137a29cae722001cd4bbb6bf91f04365e12e99ed72444eb166a6") true
    over (fun _ h => by cases h) (by kernel_rfl) (fun _ h => by cases h) batchReads_row_tie rfl ⟨rfl, rfl⟩ (by kernel_rfl) rfl
    (fun f fn hf hfn => by
      obtain rfl : f = 5 := Option.some.inj ((show Tryz.prog.funcNamed "castellan/castellanlaw06.BatchReads" = some 5 by kernel_rfl).symm.trans hf) |>.symm
      obtain rfl : fn = Tryz.f5 := (Option.some.inj (Tryz.func5.symm.trans hfn)).symm
      exact ⟨by kernel_rfl, fun j t ht => by
        rw [Tryz.params5] at ht
        have hm : t ∈ [40] := by simpa using Array.mem_of_getElem? ht
        have ha : ([40] : List TypeId).all (fun t => !Tryz.prog.wantsStandIn t) = true := by kernel_rfl
        have hb := List.all_eq_true.1 ha t hm
        exact (show Tryz.prog.wantsStandIn t = false by simpa using hb)⟩)
    (by kernel_rfl)
#print axioms card
end Go.Proofs.YtjiffdgidodebaaGreatDoor.batchReads
namespace Go.Proofs.YtjiffdgidodebaaGreatDoor
/-- The tied card, under a short name, for the claim. -/
theorem batchReads_holds : Rows.BatchReadsCardSaid := batchReads.card
end Go.Proofs.YtjiffdgidodebaaGreatDoor
