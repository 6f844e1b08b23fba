/- The law DumpReads of this seat holds for every input, and so does its tied card: the walk of its code joined with the plain theorem on what the code computes; no condition but that the listed variable holds what the card ties it to. -/
import Derived.Test.YtfkmkgpoddbbfaaGreatDoorTie
import Derived.Test.YtfkmkgpoddbbfaaGreatDoorCards
import Derived.Test.YtfkmkgpoddbbfaaGreatDoorD
import Derived.Test.YtfkmkgpoddbbfaaGreatDoorLDReadsAll
import Derived.ShutString
import Derived.SevenTiedAt
namespace Go.Proofs.YtfkmkgpoddbbfaaGreatDoor.dumpReads
open Go Go.KK Go.Proofs.YtfkmkgpoddbbfaaGreatDoor.G
open Go.ChangeShapes Go.WideShapes Go.ChangeAt Go.RowKit
open Go.ChangeMaps (open_string shut_string)
set_option linter.unusedVariables false
set_option maxRecDepth 100000 in
theorem Q7B (os : Os) (started : os.Started) (H : Type) (enc : TypeId × Value → H) :
    ReturnsInHanded {} Tryz.checked os 3 .any (fun w args => (Rows.dumpReadsSpec.pre enc Tryz.prog Tryz.f3 [] false w args ∧ laidMetH Tryz.prog Q06 w) ∧ sizedMet enc Tryz.prog Tryz.f3 (OpenSpec.ofChange Rows.dumpReadsSpec) false w args)
      (Rows.dumpReadsSpec.post enc Tryz.prog Tryz.f3 false true false false) := by
  refine returnsInHanded_of_change_and (C := Tryz.checked) (X := fun w _ => laidMetH Tryz.prog Q06 w) (fun _ _ _ hh h => h.of_heap hh) own started (by kernel_rfl) Tryz.func3
    (ChangeSpec.witness_at (enc := enc) (C := Tryz.checked) (os := os) (X := fun w _ => laidMetH Tryz.prog Q06 w) false (QyQ os) #[.slice none 0 0] 8 rfl (by kernel_rfl) (by kernel_rfl) (by kernel_rfl) (by kernel_rfl) (by kernel_rfl) (QxI os _)) ?_
  intro W base args ds gs before hval0 hW hcnd hsz0 hL _
  have hsz : (DataW.weightsEach Tryz.prog (Tryz.f3.params.toList ++ Rows.dumpReadsSpec.plain.varTypes Tryz.prog) (ds ++ gs)).all (· ≤ reachBytes) = true := hsz0
  have hval : ∀ (j : Nat) t v, Tryz.f3.params[j]? = some t → args[j]? = some v → Value.okWide Tryz.prog W .any base t v := hval0
  have hW' := hW
  obtain ⟨p, q, hA0, hV, rfl, hfz, hnd⟩ := hW
  have hA : DataW.TrodAll enc Tryz.prog W 0 (fun _ => true) true Tryz.f3.params.toList args.toList ds p := hA0
  rw [Tryz.params3] at hA hval hsz
  obtain ⟨v0, vs0, d0, ds0, p0, q0, hargs, rfl, rfl, h0, r0⟩ := trodAll_cons hA
  obtain ⟨rfl, rfl, rfl⟩ := trodAll_nil r0
  obtain rfl : args = #[v0] := by cases args; simp_all
  obtain ⟨rfl, rfl⟩ := trodVars_none hV
  obtain ⟨z0, w0, o0⟩ := Opens.arg Tryz.underlying22 (Opens.slice Tryz.underlying22 (by kernel_rfl) (Nat.le_of_ble_eq_true (by kernel_rfl)) (Opens.int Tryz.underlying5)) (hval 0 22 v0 rfl rfl) h0 (fun n hn => by simpa using List.all_eq_true.1 hsz _ (DataW.weights_mem_each (j := 0) (t := 22) rfl rfl n hn))
  have k0 := h0
  have lt0 : ∀ x ∈ p0, x.block < W.heap.size := by obtain ⟨m, hm⟩ := k0; exact DataW.trod_lt m _ _ _ hm
  have hE : Env (IM.of W) := by
    show (IM.of W).cell ⟨0, 0, none⟩ = _
    rw [Q1A]
    exact Qv0 hL
  have law := Tri.law (.bool true) (QoS z0 (IM.of W) v0 w0 hE true (QvZ z0 o0)) (fun u M' H' hp => (And.left (show (Value.bool true = u) ∧ _ from hp)).symm)
  refine law.mono fun e W' ⟨he, bel⟩ => ?_
  subst he
  exact ⟨_, rfl, _, _, _, [], _, [], hW', trodAll_mk1 (shut_bool Tryz.underlying4 _), (trodAll_cons_mk (Below.trod Q5E (by kernel_rfl) (of_decide_eq_true (by kernel_rfl)) k0 bel lt0) trodAll_mk0), rfl, bel.frame _, fun h => by cases h⟩
theorem over : Rows.DumpReadsSaid :=
  OpenClaim.holds_of_wide 3 Tryz.f3 rfl rfl rfl rfl rfl rfl rfl ⟨rfl, rfl, rfl, rfl, rfl⟩ rfl rfl rfl rfl rfl (by kernel_rfl) Tryz.func3 (by kernel_rfl)
    (of_decide_eq_true (by kernel_rfl)) (by unfold Func.isWrapper; first | (rw [if_pos (by decide +kernel)]; kernel_rfl) | (rw [if_neg (by decide +kernel)]; exact ⟨rfl, rfl⟩))
    (fun os started H enc _ => Q7B os started H enc)
theorem card : Rows.DumpReadsCardSaid :=
  Claim7.holds_tied_plain_at .later [] [.handle] true (true, "de3ba782abc744c22c6f6a999dff7ff29821edae48a705a6cae99fd5a4457f37") true
    over (fun _ h => by cases h) (by kernel_rfl) (fun _ h => by cases h) dumpReads_row_tie rfl ⟨rfl, rfl⟩ (by kernel_rfl) rfl
    (fun f fn hf hfn => by
      obtain rfl : f = 3 := Option.some.inj ((show Tryz.prog.funcNamed "castellan/castellanlaw16.DumpReads" = some 3 by kernel_rfl).symm.trans hf) |>.symm
      obtain rfl : fn = Tryz.f3 := (Option.some.inj (Tryz.func3.symm.trans hfn)).symm
      exact ⟨by kernel_rfl, fun j t ht => by
        rw [Tryz.params3] at ht
        have hm : t ∈ [22] := by simpa using Array.mem_of_getElem? ht
        have ha : ([22] : List TypeId).all (fun t => !Tryz.prog.wantsStandIn t) = true := by kernel_rfl
        have hb := List.all_eq_true.1 ha t hm
        exact (show Tryz.prog.wantsStandIn t = false by simpa using hb)⟩)
    (by kernel_rfl)
#print axioms card
end Go.Proofs.YtfkmkgpoddbbfaaGreatDoor.dumpReads
namespace Go.Proofs.YtfkmkgpoddbbfaaGreatDoor
/-- The tied card, under a short name, for the claim. -/
theorem Q2W : Rows.DumpReadsCardSaid := dumpReads.card
end Go.Proofs.YtfkmkgpoddbbfaaGreatDoor
