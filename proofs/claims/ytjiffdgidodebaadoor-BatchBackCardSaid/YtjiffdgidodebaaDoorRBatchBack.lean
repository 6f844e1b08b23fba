/- The law BatchBack of this seat holds for every input, and so does its tied card: the walk of its code joined with the plain theorem on what the code computes; no condition but that the listed variable holds what the card ties it to. -/
import Derived.Test.YtjiffdgidodebaaDoorTie
import Derived.Test.YtjiffdgidodebaaDoorCards
import Derived.Test.YtjiffdgidodebaaDoorD
import Derived.Test.YtjiffdgidodebaaDoorLBBackAll
import Derived.ShutString
import Derived.SevenTiedAt
namespace Go.Proofs.YtjiffdgidodebaaDoor.batchBack
open Go Go.KK Go.Proofs.YtjiffdgidodebaaDoor.G
open Go.ChangeShapes Go.WideShapes Go.ChangeAt Go.RowKit
open Go.ChangeMaps (open_string shut_string)
set_option linter.unusedVariables false
theorem argSt {P : Program} {t : TypeId} {fs : Array Field} {α : Type} {d : Kd α} {ok : α → Prop} (ht : P.underlying t = some (.struct fs)) (h : Opens P t d ok) {H : Type} {enc : TypeId × Value → H} {w : World} {base : Nat} {spare : Nat → Bool} {held : Bool} {r : Reach} {b0 : Nat} {v : Value} {x : DataW H} {p : List MemPlace}
    (hv : Value.okWide P w r b0 t v) (hd : DataW.Trod enc P w base spare held t v x p) (hw : ∀ n ∈ x.weights P t, n ≤ reachBytes) : ∃ cs a, v = .agg cs ∧ d.rc (IM.of w) cs.toList a ∧ ok a := by
  obtain ⟨cs, rfl, _⟩ := WideShapes.okWide_struct ht hv
  obtain ⟨fuel, hf⟩ := hd
  obtain ⟨a, h1, h2⟩ := h _ enc w base spare held fuel _ _ hf hw
  exact ⟨cs, a, rfl, h1, h2⟩
set_option maxRecDepth 100000 in
theorem lifted (os : Os) (started : os.Started) (H : Type) (enc : TypeId × Value → H) :
    ReturnsInHanded {} Tryd.checked os 8 .any (fun w args => (Rows.batchBackSpec.pre enc Tryd.prog Tryd.f8 [] false w args ∧ laidMetH Tryd.prog laidL w) ∧ sizedMet enc Tryd.prog Tryd.f8 (OpenSpec.ofChange Rows.batchBackSpec) false w args)
      (Rows.batchBackSpec.post enc Tryd.prog Tryd.f8 false true false false) := by
  refine returnsInHanded_of_change_and (C := Tryd.checked) (X := fun w _ => laidMetH Tryd.prog laidL w) (fun _ _ _ hh h => h.of_heap hh) own started (by kernel_rfl) Tryd.func8
    (ChangeSpec.witness_at (enc := enc) (C := Tryd.checked) (os := os) (X := fun w _ => laidMetH Tryd.prog laidL w) false (laidWorld os) #[(.agg #[(.int .i64 (0 : Int)), (.int .i64 (0 : Int)), (.slice none 0 0)]), .slice none 0 0] 8 rfl (by kernel_rfl) (by kernel_rfl) (by kernel_rfl) (by kernel_rfl) (by kernel_rfl) (laidWorld_met os _)) ?_
  intro W base args ds gs before hval0 hW hcnd hsz0 hL _
  have hsz : (DataW.weightsEach Tryd.prog (Tryd.f8.params.toList ++ Rows.batchBackSpec.plain.varTypes Tryd.prog) (ds ++ gs)).all (· ≤ reachBytes) = true := hsz0
  have hval : ∀ (j : Nat) t v, Tryd.f8.params[j]? = some t → args[j]? = some v → Value.okWide Tryd.prog W .any base t v := hval0
  have hW' := hW
  obtain ⟨p, q, hA0, hV, rfl, hfz, hnd⟩ := hW
  have hA : DataW.TrodAll enc Tryd.prog W 0 (fun _ => true) true Tryd.f8.params.toList args.toList ds p := hA0
  rw [Tryd.params8] at hA hval hsz
  obtain ⟨v0, vs0, d0, ds0, p0, q0, hargs, rfl, rfl, h0, r0⟩ := trodAll_cons hA
  obtain ⟨v1, vs1, d1, ds1, p1, q1, rfl, rfl, rfl, h1, r1⟩ := trodAll_cons r0
  obtain ⟨rfl, rfl, rfl⟩ := trodAll_nil r1
  obtain rfl : args = #[v0, v1] := by cases args; simp_all
  obtain ⟨rfl, rfl⟩ := trodVars_none hV
  obtain ⟨cs0, z0, rfl, y0, o0⟩ := argSt Tryd.underlying66 (show Opens Tryd.prog 66 kd_api_Batch _ from Opens.struct (mk := fun a => ⟨a.1, a.2.1, a.2.2.1⟩) Tryd.underlying66 (by kernel_rfl) (OpensF.cons rfl (by kernel_rfl) (Opens.int Tryd.underlying3) (OpensF.cons rfl (by kernel_rfl) (Opens.int Tryd.underlying3) (OpensF.cons rfl (by kernel_rfl) (Opens.slice Tryd.underlying64 (by kernel_rfl) (Nat.le_of_ble_eq_true (by kernel_rfl)) (show Opens Tryd.prog 106 kd_api_Record _ from Opens.struct (mk := fun a => ⟨a.1, a.2.1, a.2.2.1, a.2.2.2.1, a.2.2.2.2.1, a.2.2.2.2.2.1, a.2.2.2.2.2.2.1, a.2.2.2.2.2.2.2.1, a.2.2.2.2.2.2.2.2.1, a.2.2.2.2.2.2.2.2.2.1, a.2.2.2.2.2.2.2.2.2.2.1, a.2.2.2.2.2.2.2.2.2.2.2.1, a.2.2.2.2.2.2.2.2.2.2.2.2.1, a.2.2.2.2.2.2.2.2.2.2.2.2.2.1, a.2.2.2.2.2.2.2.2.2.2.2.2.2.2.1, a.2.2.2.2.2.2.2.2.2.2.2.2.2.2.2.1, a.2.2.2.2.2.2.2.2.2.2.2.2.2.2.2.2.1, a.2.2.2.2.2.2.2.2.2.2.2.2.2.2.2.2.2.1⟩) Tryd.underlying106 (by kernel_rfl) (OpensF.cons rfl (by kernel_rfl) (Opens.int Tryd.underlying3) (OpensF.cons rfl (by kernel_rfl) (Opens.int Tryd.underlying3) (OpensF.cons rfl (by kernel_rfl) (Opens.int Tryd.underlying3) (OpensF.cons rfl (by kernel_rfl) (Opens.int Tryd.underlying3) (OpensF.cons rfl (by kernel_rfl) (Opens.int Tryd.underlying3) (OpensF.cons rfl (by kernel_rfl) (Opens.int Tryd.underlying3) (OpensF.cons rfl (by kernel_rfl) (Opens.int Tryd.underlying3) (OpensF.cons rfl (by kernel_rfl) (Opens.int Tryd.underlying3) (OpensF.cons rfl (by kernel_rfl) (Opens.int Tryd.underlying3) (OpensF.cons rfl (by kernel_rfl) (Opens.bool Tryd.underlying4) (OpensF.cons rfl (by kernel_rfl) (Opens.str Tryd.underlying9) (OpensF.cons rfl (by kernel_rfl) (Opens.str Tryd.underlying9) (OpensF.cons rfl (by kernel_rfl) (Opens.str Tryd.underlying9) (OpensF.cons rfl (by kernel_rfl) (Opens.str Tryd.underlying9) (OpensF.cons rfl (by kernel_rfl) (Opens.slice Tryd.underlying95 (by kernel_rfl) (Nat.le_of_ble_eq_true (by kernel_rfl)) (Opens.int Tryd.underlying3)) (OpensF.cons rfl (by kernel_rfl) (Opens.slice Tryd.underlying95 (by kernel_rfl) (Nat.le_of_ble_eq_true (by kernel_rfl)) (Opens.int Tryd.underlying3)) (OpensF.cons rfl (by kernel_rfl) (Opens.slice Tryd.underlying95 (by kernel_rfl) (Nat.le_of_ble_eq_true (by kernel_rfl)) (Opens.int Tryd.underlying3)) (OpensF.cons rfl (by kernel_rfl) (Opens.slice Tryd.underlying95 (by kernel_rfl) (Nat.le_of_ble_eq_true (by kernel_rfl)) (Opens.int Tryd.underlying3)) OpensF.nil)))))))))))))))))) (fun a => rfl))) OpensF.nil))) (fun a => rfl)) (hval 0 66 v0 rfl rfl) h0 (fun n hn => by simpa using List.all_eq_true.1 hsz _ (DataW.weights_mem_each (j := 0) (t := 66) rfl rfl n hn))
  obtain ⟨_, _, e0, rfl, ⟨_, _, rfl, rfl, ⟨_, _, rfl, ⟨v0_2, rfl, h0_2⟩, rfl⟩⟩⟩ := y0
  obtain rfl : cs0 = #[.int .i64 z0.Term, .int .i64 z0.Base, v0_2] := Array.toList_inj.1 e0
  have k0 := h0
  have lt0 : ∀ x ∈ p0, x.block < W.heap.size := by obtain ⟨m, hm⟩ := k0; exact DataW.trod_lt m _ _ _ hm
  obtain ⟨z1, w1, o1⟩ := Opens.arg Tryd.underlying26 (Opens.slice Tryd.underlying26 (by kernel_rfl) (Nat.le_of_ble_eq_true (by kernel_rfl)) (Opens.int Tryd.underlying5)) (hval 1 26 v1 rfl rfl) h1 (fun n hn => by simpa using List.all_eq_true.1 hsz _ (DataW.weights_mem_each (j := 1) (t := 26) rfl rfl n hn))
  have k1 := h1
  have lt1 : ∀ x ∈ p1, x.block < W.heap.size := by obtain ⟨m, hm⟩ := k1; exact DataW.trod_lt m _ _ _ hm
  have hE : Env (IM.of W) := by
    show (IM.of W).cell ⟨0, 0, none⟩ = _
    rw [cell_of]
    exact handle_of_laid hL
  have law := Tri.law (.bool true) (f_law06_BatchBack_ok z0 z1 (IM.of W) v0_2 v1 h0_2 w1 hE true (pure_BatchBack z0 z1 o0 o1)) (fun u M' H' hp => (And.left (show (Value.bool true = u) ∧ _ from hp)).symm)
  refine law.mono fun e W' ⟨he, bel⟩ => ?_
  subst he
  exact ⟨_, rfl, _, _, _, [], _, [], hW', trodAll_mk1 (shut_bool Tryd.underlying4 _), (trodAll_cons_mk (Below.trod laidOut (by kernel_rfl) (of_decide_eq_true (by kernel_rfl)) k0 bel lt0) (trodAll_cons_mk (Below.trod laidOut (by kernel_rfl) (of_decide_eq_true (by kernel_rfl)) k1 bel lt1) trodAll_mk0)), rfl, bel.frame _, fun h => by cases h⟩
theorem over : Rows.BatchBackSaid :=
  OpenClaim.holds_of_wide 8 Tryd.f8 rfl rfl rfl rfl rfl rfl rfl ⟨rfl, rfl, rfl, rfl, rfl⟩ rfl rfl rfl rfl rfl (by kernel_rfl) Tryd.func8 (by kernel_rfl)
    (of_decide_eq_true (by kernel_rfl)) (by unfold Func.isWrapper; first | (rw [if_pos (by decide +kernel)]; kernel_rfl) | (rw [if_neg (by decide +kernel)]; exact ⟨rfl, rfl⟩))
    (fun os started H enc _ => lifted os started H enc)
theorem card : Rows.BatchBackCardSaid :=
  Claim7.holds_tied_plain_at .later [] [.handle] true (true, "e8afc2b6556892016f77d8cde5538bfa2ddd2dfe914643cabcd464c69a3eeea7") true
    over (fun _ h => by cases h) (by kernel_rfl) (fun _ h => by cases h) batchBack_row_tie rfl ⟨rfl, rfl⟩ (by kernel_rfl) rfl
    (fun f fn hf hfn => by
      obtain rfl : f = 8 := Option.some.inj ((show Tryd.prog.funcNamed "castellan/castellanlaw06.BatchBack" = some 8 by kernel_rfl).symm.trans hf) |>.symm
      obtain rfl : fn = Tryd.f8 := (Option.some.inj (Tryd.func8.symm.trans hfn)).symm
      exact ⟨by kernel_rfl, fun j t ht => by
        rw [Tryd.params8] at ht
        have hm : t ∈ [66, 26] := by simpa using Array.mem_of_getElem? ht
        have ha : ([66, 26] : List TypeId).all (fun t => !Tryd.prog.wantsStandIn t) = true := by kernel_rfl
        have hb := List.all_eq_true.1 ha t hm
        exact (show Tryd.prog.wantsStandIn t = false by simpa using hb)⟩)
    (by kernel_rfl)
#print axioms card
end Go.Proofs.YtjiffdgidodebaaDoor.batchBack
namespace Go.Proofs.YtjiffdgidodebaaDoor
/-- The tied card, under a short name, for the claim. -/
theorem batchBack_holds : Rows.BatchBackCardSaid := batchBack.card
end Go.Proofs.YtjiffdgidodebaaDoor
