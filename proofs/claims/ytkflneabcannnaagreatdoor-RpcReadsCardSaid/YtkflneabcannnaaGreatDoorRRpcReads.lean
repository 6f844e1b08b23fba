/- The law RpcReads of this seat holds for every input, and so does its tied card: the walk of its code joined with the plain theorem on what the code computes; no condition but that the listed variable holds what the card ties it to. -/
import Derived.Test.YtkflneabcannnaaGreatDoorTie
import Derived.Test.YtkflneabcannnaaGreatDoorCards
import Derived.Test.YtkflneabcannnaaGreatDoorD
import Derived.Test.YtkflneabcannnaaGreatDoorLRReadAll
import Derived.ShutString
import Derived.SevenTiedAt
namespace Go.Proofs.YtkflneabcannnaaGreatDoor.rpcReads
open Go Go.KK Go.Proofs.YtkflneabcannnaaGreatDoor.G
open Go.ChangeShapes Go.WideShapes Go.ChangeAt Go.RowKit
open Go.ChangeMaps (open_string shut_string)
set_option linter.unusedVariables false
set_option maxRecDepth 100000 in
theorem lifted (os : Os) (started : os.Started) (H : Type) (enc : TypeId × Value → H) :
    ReturnsInHanded {} Tryz.checked os 7 .any (fun w args => (Rows.rpcReadsSpec.pre enc Tryz.prog Tryz.f7 [] false w args ∧ laidMetH Tryz.prog laidL w) ∧ sizedMet enc Tryz.prog Tryz.f7 (OpenSpec.ofChange Rows.rpcReadsSpec) false w args)
      (Rows.rpcReadsSpec.post enc Tryz.prog Tryz.f7 false true false false) := by
  refine returnsInHanded_of_change_and (C := Tryz.checked) (X := fun w _ => laidMetH Tryz.prog laidL w) (fun _ _ _ hh h => h.of_heap hh) own started (by kernel_rfl) Tryz.func7
    (ChangeSpec.witness_at (enc := enc) (C := Tryz.checked) (os := os) (X := fun w _ => laidMetH Tryz.prog laidL w) false (laidWorld os) #[.int .i64 0, .slice none 0 0] 8 rfl (by kernel_rfl) (by kernel_rfl) (by kernel_rfl) (by kernel_rfl) (by kernel_rfl) (laidWorld_met os _)) ?_
  intro W base args ds gs before hval0 hW hcnd hsz0 hL _
  have hsz : (DataW.weightsEach Tryz.prog (Tryz.f7.params.toList ++ Rows.rpcReadsSpec.plain.varTypes Tryz.prog) (ds ++ gs)).all (· ≤ reachBytes) = true := hsz0
  have hval : ∀ (j : Nat) t v, Tryz.f7.params[j]? = some t → args[j]? = some v → Value.okWide Tryz.prog W .any base t v := hval0
  have hW' := hW
  obtain ⟨p, q, hA0, hV, rfl, hfz, hnd⟩ := hW
  have hA : DataW.TrodAll enc Tryz.prog W 0 (fun _ => true) true Tryz.f7.params.toList args.toList ds p := hA0
  rw [Tryz.params7] at hA hval hsz
  obtain ⟨v0, vs0, d0, ds0, p0, q0, hargs, rfl, rfl, h0, r0⟩ := trodAll_cons hA
  obtain ⟨v1, vs1, d1, ds1, p1, q1, rfl, rfl, rfl, h1, r1⟩ := trodAll_cons r0
  obtain ⟨rfl, rfl, rfl⟩ := trodAll_nil r1
  obtain rfl : args = #[v0, v1] := by cases args; simp_all
  obtain ⟨rfl, rfl⟩ := trodVars_none hV
  obtain ⟨a0, rfl, rfl, rfl, w0⟩ := open_int Tryz.underlying3 (hval 0 3 v0 rfl rfl) h0
  obtain ⟨z1, w1, o1⟩ := Opens.arg Tryz.underlying23 (Opens.slice Tryz.underlying23 (by kernel_rfl) (Nat.le_of_ble_eq_true (by kernel_rfl)) (Opens.int Tryz.underlying5)) (hval 1 23 v1 rfl rfl) h1 (fun n hn => by simpa using List.all_eq_true.1 hsz _ (DataW.weights_mem_each (j := 1) (t := 23) rfl rfl n hn))
  have k1 := h1
  have lt1 : ∀ x ∈ p1, x.block < W.heap.size := by obtain ⟨m, hm⟩ := k1; exact DataW.trod_lt m _ _ _ hm
  have hE : Env (IM.of W) := by
    show (IM.of W).cell ⟨0, 0, none⟩ = _
    rw [cell_of]
    exact handle_of_laid hL
  have law := Tri.law (.bool true) (f_law07_RpcReads_ok a0 z1 (IM.of W) v1 w1 hE true (pure_RpcReads a0 z1 w0 o1)) (fun u M' H' hp => (And.left (show (Value.bool true = u) ∧ _ from hp)).symm)
  refine law.mono fun e W' ⟨he, bel⟩ => ?_
  subst he
  exact ⟨_, rfl, _, _, _, [], _, [], hW', trodAll_mk1 (shut_bool Tryz.underlying4 _), (trodAll_cons_mk (shut_int Tryz.underlying3 w0) (trodAll_cons_mk (Below.trod laidOut (by kernel_rfl) (of_decide_eq_true (by kernel_rfl)) k1 bel lt1) trodAll_mk0)), rfl, bel.frame _, fun h => by cases h⟩
theorem over : Rows.RpcReadsSaid :=
  OpenClaim.holds_of_wide 7 Tryz.f7 rfl rfl rfl rfl rfl rfl rfl ⟨rfl, rfl, rfl, rfl, rfl⟩ rfl rfl rfl rfl rfl (by kernel_rfl) Tryz.func7 (by kernel_rfl)
    (of_decide_eq_true (by kernel_rfl)) (by unfold Func.isWrapper; first | (rw [if_pos (by decide +kernel)]; kernel_rfl) | (rw [if_neg (by decide +kernel)]; exact ⟨rfl, rfl⟩))
    (fun os started H enc _ => lifted os started H enc)
theorem card : Rows.RpcReadsCardSaid :=
  Claim7.holds_tied_plain_at .later [] [.handle] true (true, "ff8807c7023d9e88fa0cb7c3ecf4dfbdfa033f3f04732f9e53ee7f496d22a81f") true
    over (fun _ h => by cases h) (by kernel_rfl) (fun _ h => by cases h) rpcReads_row_tie rfl ⟨rfl, rfl⟩ (by kernel_rfl) rfl
    (fun f fn hf hfn => by
      obtain rfl : f = 7 := Option.some.inj ((show Tryz.prog.funcNamed "castellan/castellanlaw07.RpcReads" = some 7 by kernel_rfl).symm.trans hf) |>.symm
      obtain rfl : fn = Tryz.f7 := (Option.some.inj (Tryz.func7.symm.trans hfn)).symm
      exact ⟨by kernel_rfl, fun j t ht => by
        rw [Tryz.params7] at ht
        have hm : t ∈ [3, 23] := by simpa using Array.mem_of_getElem? ht
        have ha : ([3, 23] : List TypeId).all (fun t => !Tryz.prog.wantsStandIn t) = true := by kernel_rfl
        have hb := List.all_eq_true.1 ha t hm
        exact (show Tryz.prog.wantsStandIn t = false by simpa using hb)⟩)
    (by kernel_rfl)
#print axioms card
end Go.Proofs.YtkflneabcannnaaGreatDoor.rpcReads
namespace Go.Proofs.YtkflneabcannnaaGreatDoor
/-- The tied card, under a short name, for the claim. -/
theorem rpcReads_holds : Rows.RpcReadsCardSaid := rpcReads.card
end Go.Proofs.YtkflneabcannnaaGreatDoor
