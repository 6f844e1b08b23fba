/- Arguments: what reads as data is a value of its kind, of numbers that are in their ranges. -/
import Derived.Test.YtpmofealbmapiaaDoorKGen2
import Derived.WalkKit
import Derived.ProofKit
import Derived.OpenShut
import Derived.ChangeOld
import Derived.Below
import Derived.SizedLaws
import Derived.Deep.Slices
set_option linter.unusedSimpArgs false
set_option linter.unusedVariables false
namespace Go.KK
open Go

/-- Whatever reads as data of this type is of this kind, and as ok says. -/
def Opens (P : Program) (t : TypeId) {α : Type} (d : Kd α) (ok : α → Prop) : Prop :=
  ∀ (H : Type) (enc : TypeId × Value → H) (w : World) (base : Nat) (spare : Nat → Bool) (held : Bool) (fuel : Nat) (cs : List Value) (x : DataW H × List MemPlace),
    DataW.trod enc P w base spare held fuel t cs = some x → (∀ n ∈ x.1.weights P t, n ≤ reachBytes) → ∃ a, d.rc (IM.of w) cs a ∧ ok a

theorem Opens.int {P : Program} {t : TypeId} {k : IntKind} (ht : P.underlying t = some (.int k)) : Opens P t (Kd.int k) (fun n => (Lit.int k n).wf = true) := by
  intro H enc w base spare held fuel cs x h _
  cases fuel with
  | zero => simp [DataW.trod] at h
  | succ n =>
    unfold DataW.trod at h
    rw [ht] at h
    split at h <;> simp_all
    exact ⟨_, rfl, h.1.2⟩
theorem Opens.bool {P : Program} {t : TypeId} (ht : P.underlying t = some .bool) : Opens P t Kd.bool (fun _ => True) := by
  intro H enc w base spare held fuel cs x h _
  cases fuel with
  | zero => simp [DataW.trod] at h
  | succ n =>
    unfold DataW.trod at h
    rw [ht] at h
    split at h
    · rename_i b _
      exact ⟨b, rfl, trivial⟩
    all_goals first | (simp_all; done) | cases h
theorem Opens.str {P : Program} {t : TypeId} (ht : P.underlying t = some .string) : Opens P t Kd.str (fun s => s.size ≤ maxLen) := by
  intro H enc w base spare held fuel cs x h _
  cases fuel with
  | zero => simp [DataW.trod] at h
  | succ n =>
    unfold DataW.trod at h
    rw [ht] at h
    split at h <;> simp_all
    exact ⟨_, rfl, h.1⟩

theorem cell_of (w : World) (p : Addr) : (IM.of w).cell p = w.cell? p := by
  rw [cell?_eq]
  show (match w.heap[p.block]? with | some o => objCell (some o) p | none => preCell none p) = _
  cases w.heap[p.block]? <;> rfl

theorem weightsAll_mem {H : Type} {P : Program} {e : TypeId} : ∀ {ds : List (DataW H)} {d : DataW H}, d ∈ ds → ∀ n ∈ d.weights P e, n ∈ DataW.weightsAll P e ds
  | d0 :: ds, d, hd, n, hn => by
    simp only [DataW.weightsAll, List.mem_append]
    rcases List.mem_cons.1 hd with rfl | hd
    · exact .inl hn
    · exact .inr (weightsAll_mem hd n hn)
theorem Opens.slice {P : Program} {t e : TypeId} {α : Type} {d : Kd α} {ok : α → Prop} (ht : P.underlying t = some (.slice e)) (hc : P.cellsOf e = d.sz) (hB : 1 ≤ P.bytesOf e) (he : Opens P e d ok) : Opens P t (Kd.slice d) (fun xs => (∀ x ∈ xs, ok x) ∧ xs.length ≤ reachBytes) := by
  intro H enc w base spare held fuel cs x h hw
  rcases DataW.trod_slice ht h with ⟨rfl, rfl⟩ | ⟨a, len, cap, elems, rest, n, _, rfl, rfl, hb, hl, hm, hlen, hel, hsp, hns⟩
  · exact ⟨[], ⟨_, rfl, RS.nil _ _⟩, by simp, by simp⟩
  · have hw0 : ∀ n ∈ (elems.map (·.1)).length * P.bytesOf e :: DataW.weightsAll P e (elems.map (·.1)), n ≤ reachBytes := by
      intro n hn
      rcases List.mem_cons.1 hn with rfl | hn
      · refine Nat.le_trans ?_ (hw (((elems.map (·.1)).length + (rest.map (·.1)).length) * P.bytesOf e) ?_)
        · exact Nat.mul_le_mul_right _ (by omega)
        · simp only [DataW.weights, ht]; exact List.mem_cons_self
      · refine hw n ?_
        simp only [DataW.weights, ht]
        exact List.mem_cons_of_mem _ (List.mem_append.2 (.inl hn))
    have hlen2 : len ≤ reachBytes := by
      have := hw0 _ List.mem_cons_self
      rw [List.length_map, hlen] at this
      have := Nat.mul_le_mul_left len hB
      omega
    have hall : ∀ i, i < len → ∃ c a', w.cells? base (a.add (i * d.sz)) d.sz = some c ∧ d.rc (IM.of w) c a' ∧ ok a' := fun i hi => by
      have := hel i hi
      rw [List.getElem?_eq_getElem (by omega), hc] at this
      obtain ⟨c, h1, h2⟩ := Option.bind_eq_some_iff.1 this
      obtain ⟨a', h3, h4⟩ := he H enc w base spare held n c _ h2 (fun m hm => hw0 m (List.mem_cons_of_mem _ (weightsAll_mem (List.mem_map.2 ⟨elems[i]'(by omega), List.getElem_mem _, rfl⟩) m hm)))
      exact ⟨c, a', h1, h3, h4⟩
    have key : ∀ m, m ≤ len → ∃ xs : List α, xs.length = m ∧ (∀ x ∈ xs, ok x) ∧ ∀ i (hi : i < xs.length), ∃ c, w.cells? base (a.add (i * d.sz)) d.sz = some c ∧ d.rc (IM.of w) c xs[i] := by
      intro m
      induction m with
      | zero => intro _; exact ⟨[], rfl, by simp, fun i hi => by simp at hi⟩
      | succ m ih =>
        intro hm'
        obtain ⟨xs, h1, h2, h3⟩ := ih (by omega)
        obtain ⟨c, a', h4, h5, h6⟩ := hall m (by omega)
        refine ⟨xs ++ [a'], by simp [h1], ?_, ?_⟩
        · intro x hx
          rcases List.mem_append.1 hx with hx | hx
          · exact h2 x hx
          · simp at hx; subst hx; exact h6
        · intro i hi
          by_cases e : i < xs.length
          · rw [List.getElem_append_left e]; exact h3 i e
          · have : i = xs.length := by simp at hi; omega
            subst this
            refine ⟨c, by rw [h1]; exact h4, ?_⟩
            simp; exact h5
    obtain ⟨xs, h1, h2, h3⟩ := key len (Nat.le_refl _)
    refine ⟨xs, ⟨_, rfl, ⟨some a, len, cap, rfl, h1.symm, hl, ?_⟩⟩, h2, by rw [h1]; exact hlen2⟩
    intro i hi
    obtain ⟨c, h4, h5⟩ := h3 i hi
    refine ⟨c, h5, fun j u hj => ?_⟩
    show (IM.of w).cell (a.add (i * d.sz + j)) = some u
    rw [cell_of]
    have hlen' := d.len h5
    have hjl : j < d.sz := by rw [← hlen']; exact (List.getElem?_eq_some_iff.1 hj).1
    have h6 := (World.cells?_some h4).2.2 j hjl
    rw [Deep.add_add] at h6
    rw [h6]; exact hj

/-- The fields from one on. -/
def OpensF (P : Program) (fs : List Field) (off : Nat) {α : Type} (d : Kd α) (ok : α → Prop) : Prop :=
  ∀ (H : Type) (enc : TypeId × Value → H) (w : World) (base : Nat) (spare : Nat → Bool) (held : Bool) (fuel : Nat) (cs : List Value),
    cs.length = off + d.sz → (∀ f ∈ fs, ∃ x, DataW.trod enc P w base spare held fuel f.type ((cs.drop f.offset).take (P.cellsOf f.type)) = some x ∧ ∀ n ∈ x.1.weights P f.type, n ≤ reachBytes) → ∃ a, d.rc (IM.of w) (cs.drop off) a ∧ ok a
theorem OpensF.nil {P : Program} {off : Nat} : OpensF P [] off Kd.nil (fun _ => True) := by
  intro H enc w base spare held fuel cs hl _
  exact ⟨(), by show cs.drop off = []; exact List.drop_eq_nil_of_le (by rw [hl]; exact Nat.le_refl _), trivial⟩
theorem OpensF.cons {P : Program} {f : Field} {fs : List Field} {off : Nat} {α β : Type} {d : Kd α} {d2 : Kd β} {ok : α → Prop} {ok2 : β → Prop} (ho : f.offset = off) (hc : P.cellsOf f.type = d.sz) (h1 : Opens P f.type d ok) (h2 : OpensF P fs (off + d.sz) d2 ok2) :
    OpensF P (f :: fs) off (Kd.cons d d2) (fun x => ok x.1 ∧ ok2 x.2) := by
  intro H enc w base spare held fuel cs hl h
  obtain ⟨x, hx, hxw⟩ := h f (by simp)
  rw [ho, hc] at hx
  obtain ⟨a, ha, oa⟩ := h1 H enc w base spare held fuel _ x hx hxw
  obtain ⟨b, hb, ob⟩ := h2 H enc w base spare held fuel cs (by rw [hl]; show off + (d.sz + d2.sz) = _; omega) (fun g hg => h g (by simp [hg]))
  refine ⟨(a, b), ⟨_, _, ?_, ha, hb⟩, oa, ob⟩
  rw [← List.drop_drop]
  exact (List.take_append_drop _ _).symm
theorem Opens.struct {P : Program} {t : TypeId} {fs : Array Field} {α β : Type} {d : Kd α} {f : β → α} {mk : α → β} {ok : α → Prop} (ht : P.underlying t = some (.struct fs)) (hc : P.cellsOf t = d.sz) (hf : OpensF P fs.toList 0 d ok) (hm : ∀ a, f (mk a) = a) :
    Opens P t (Kd.iso f d) (fun x => ok (f x)) := by
  intro H enc w base spare held fuel cs x h hw
  obtain ⟨xs, n, rfl, rfl, hl, hx, hall⟩ := DataW.trod_struct ht h
  obtain ⟨a, ha, oa⟩ := hf H enc w base spare held n cs (by rw [hl, hc, Nat.zero_add]) (fun g hg => by
    obtain ⟨i, hi, rfl⟩ := List.getElem_of_mem hg
    have hi' : i < fs.size := by simpa using hi
    have := hall i fs[i] (by simp [hi'])
    rw [List.getElem?_eq_getElem (by omega)] at this
    refine ⟨_, by simpa using this, fun m hm => hw m ?_⟩
    simp only [DataW.weights, ht]
    refine DataW.weights_mem_each (j := i) (t := fs.toList[i].type) (d := (xs[i]'(by omega)).1) ?_ ?_ m hm
    · rw [List.getElem?_map, List.getElem?_eq_getElem hi]; rfl
    · rw [List.getElem?_map, List.getElem?_eq_getElem (by omega)]; rfl)
  refine ⟨mk a, ?_, by show ok (f (mk a)); rw [hm]; exact oa⟩
  show d.rc _ cs (f (mk a))
  rw [hm]
  exact ha

/-- An argument that is a row. -/
theorem Opens.arg {P : Program} {t e : TypeId} {α : Type} {d : Kd α} {ok : List α → Prop} (ht : P.underlying t = some (.slice e)) (h : Opens P t (Kd.slice d) ok) {H : Type} {enc : TypeId × Value → H} {w : World} {base : Nat} {spare : Nat → Bool} {held : Bool} {r : Reach} {b0 : Nat} {v : Value} {x : DataW H} {p : List MemPlace}
    (hv : Value.okWide P w r b0 t v) (hd : DataW.Trod enc P w base spare held t v x p) (hw : ∀ n ∈ x.weights P t, n ≤ reachBytes) : ∃ xs, RS d (IM.of w) v xs ∧ ok xs := by
  obtain ⟨a, len, cap, rfl⟩ := WideShapes.okWide_slice ht hv
  obtain ⟨fuel, hf⟩ := hd
  obtain ⟨xs, ⟨u, hu, hr⟩, ho⟩ := h _ enc w base spare held fuel _ _ hf hw
  refine ⟨xs, ?_, ho⟩
  have e : (Value.slice a len cap).cells.toList = [.slice a len cap] := rfl
  rw [e] at hu
  cases hu
  exact hr
end Go.KK
