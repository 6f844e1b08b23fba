/- Stores, new variables, parts of structs, rows: index, slice, append, copy, len; calls. -/
import Derived.Test.YtpmofealbmapiaaDoorKMem
namespace Go.KK
open Go

def putL (cur : Array Value) (k : Nat) : List Value → Array Value
  | [] => cur
  | v :: r => putL (cur.setIfInBounds k v) (k + 1) r
theorem putL_size : ∀ (vs : List Value) (cur : Array Value) (k : Nat), (putL cur k vs).size = cur.size
  | [], _, _ => rfl
  | v :: r, cur, k => by rw [putL, putL_size r]; simp
theorem putL_get : ∀ (vs : List Value) (cur : Array Value) (k j : Nat), k + vs.length ≤ cur.size → (putL cur k vs)[j]? = if k ≤ j ∧ j < k + vs.length then vs[j - k]? else cur[j]?
  | [], cur, k, j, _ => by rw [putL, if_neg (by simp only [List.length_nil]; omega)]
  | v :: r, cur, k, j, h => by
    simp only [List.length_cons] at h ⊢
    rw [putL, putL_get r _ (k + 1) j (by simp only [Array.size_setIfInBounds]; omega)]
    by_cases h1 : k + 1 ≤ j ∧ j < k + 1 + r.length
    · rw [if_pos h1, if_pos (by omega), show j - k = (j - (k + 1)) + 1 by omega, List.getElem?_cons_succ]
    · rw [if_neg h1]
      by_cases h2 : j = k
      · subst h2
        rw [if_pos (by omega), Array.getElem?_setIfInBounds_self, if_pos (by omega)]; simp
      · rw [if_neg (by omega), Array.getElem?_setIfInBounds_ne (by omega)]

theorem run_storeCells_blk {P : Program} (g o : Nat) (t : TypeId) (fr : Nat × Nat) : ∀ (vs : List Value) (i : Nat) (cur : Array Value) (w : World), w.heap[g]? = some (.cells cur t fr) → o + i + vs.length ≤ cur.size →
    (fr.1 = fr.2 ∨ cur.size ≤ fr.1) → (∀ v ∈ vs, v.oneCell' = true) →
    ∃ w', (storeCells ⟨g, o, none⟩ vs i).run P w = .ok () w' ∧ w'.heap[g]? = some (.cells (putL cur (o + i) vs) t fr) ∧ (∀ b, b ≠ g → w'.heap[b]? = w.heap[b]?) ∧ w'.os = w.os ∧ w'.tape = w.tape ∧ w'.output = w.output
  | [], i, cur, w, hg, _, _, _ => ⟨w, rfl, hg, fun _ _ => rfl, rfl, rfl, rfl⟩
  | v :: rest, i, cur, w, hg, hl, hf, h1 => by
    have hi : o + i < cur.size := by simp at hl; omega
    have hcell : w.cell? ⟨g, o + i, none⟩ = some cur[o + i] := by simp [World.cell?, hg, hi]
    have hfro : w.frozen? ⟨g, o + i, none⟩ = false := by simp [World.frozen?, hg]; omega
    have hst : (store ((⟨g, o, none⟩ : Addr).add i) v).run P w = .ok () (w.setCell ⟨g, o + i, none⟩ v) := by
      rw [add_lit, run_store P w _ v _ (h1 v (by simp)), hcell]
      simp [hfro]
    have hg' : (w.setCell ⟨g, o + i, none⟩ v).heap[g]? = some (.cells (cur.setIfInBounds (o + i) v) t fr) := by
      simp [World.setCell, Array.getElem?_modify, hg]
    obtain ⟨w', r1, r2, r3, r4, r5, r6⟩ := run_storeCells_blk (P := P) g o t fr rest (i + 1) _ _ hg' (by simp at hl ⊢; omega) (by simpa using hf) (fun x hx => h1 x (by simp [hx]))
    refine ⟨w', ?_, ?_, ?_, r4, r5, r6⟩
    · simp only [storeCells, Sem.run_bind, hst, Result.andThen_ok, r1]
    · rw [r2, putL]; rfl
    · intro b hb
      rw [r3 b hb]
      simp only [World.setCell, Array.getElem?_modify]
      rw [if_neg (by omega)]

section
variable {P : Program} {ρ : Nat → Value} {M : IM} {H : HL} {d : Option Nat} {ty : TypeId} {pos : String} {af : Array Edge} {g : Option (Nat × Bool)}

/-- A store into the first piece's first block. -/
theorem EO.store {x y : Operand} {t : TypeId} {b j : Nat} {v : Value} {arr arr' : Array Value} {T : TypeId} {fr : Nat × Nat} {c : Chunk}
    (hz : (P.info? t).map (·.size) = some v.cells.size) (hx : ev ρ x = .pointer (some ⟨b, j, none⟩)) (hy : ev ρ y = v) (h1 : ∀ u ∈ v.cells.toList, u.oneCell' = true)
    (hl : j + v.cells.toList.length ≤ arr.size) (hf : fr.1 = fr.2 ∨ arr.size ≤ fr.1) (he : putL arr j v.cells.toList = arr') :
    EO P ⟨d, .store t x y, ty, pos, af, g⟩ ρ M (((b, .cells arr T fr) :: c) :: H) fun _ M' H' => M = M' ∧ H' = ((b, .cells arr' T fr) :: c) :: H := by
  intro w hs
  have hb := hs.own (b, .cells arr T fr) (by simp) rfl
  obtain ⟨w', r1, r2, r3, r4, r5, r6⟩ := run_storeCells_blk (P := P) b j T fr v.cells.toList 0 arr w hb (by simpa using hl) hf h1
  have h2 : (Instr.storeAt t (.pointer (some ⟨b, j, none⟩)) v).run P w = .ok () w' := by
    simp only [Instr.storeAt, Instr.sureAddr, pure_bind, storeVar, Sem.run_bind, run_sizeOf_some hz, Result.andThen_ok, ne_eq, not_true_eq_false, if_false]
    exact r1
  simp only [execOp, hx, hy, Sem.run_bind, h2, Result.andThen_ok]
  exact ⟨M, _, .refl M, hs.write r4 r5 r6 (by rw [r2, Nat.add_zero, he]) r3, rfl, rfl⟩

theorem Sat.alloc' {w : World} (hs : Sat w M H) (o : Obj) (ho : o.excl = true := by rfl) : Sat { w with heap := w.heap.push o } M ([(w.heap.size, o)] :: H) := hs.alloc o ho

theorem EO.alloc {t : TypeId} {z : Value} {cs : Array Value} (hz : (P.info? t).map (·.zero) = some (some z)) (hc : z.cells = cs) :
    EO P ⟨d, .alloc t, ty, pos, af, g⟩ ρ M H fun v M' H' => M = M' ∧ ∃ b, v = .pointer (some ⟨b, 0, none⟩) ∧ H' = [(b, .cells cs t (0, 0))] :: H := by
  intro w hs
  obtain ⟨i, hi, hz⟩ := Option.map_eq_some_iff.1 hz
  have h1 : (Instr.alloc t true (.tuple #[])).run P w = .ok (.pointer (some ⟨w.heap.size, 0, none⟩)) (w.alloc (.cells cs t)) := by
    subst hc
    simp only [Instr.alloc, zeroValue, Sem.run_bind, run_typeInfo w hi, Result.andThen_ok, hz, newVar, newRow, newObj]
    rfl
  simp only [execOp, Sem.run_bind, h1, Result.andThen_ok]
  exact ⟨M, _, .refl M, hs.alloc _, rfl, w.heap.size, rfl, rfl⟩

theorem EO.box {t : TypeId} {x : Operand} {cs : Array Value} (hx : (ev ρ x).cells = cs) :
    EO P ⟨d, .box t x, ty, pos, af, g⟩ ρ M H fun v M' H' => M = M' ∧ ∃ b, v = .pointer (some ⟨b, 0, none⟩) ∧ H' = [(b, .cells cs t (0, 0))] :: H := by
  intro w hs
  have h1 : (Instr.box t (ev ρ x)).run P w = .ok (.pointer (some ⟨w.heap.size, 0, none⟩)) (w.alloc (.cells cs t)) := by
    subst hx
    simp only [Instr.box, newVar, newRow, newObj]
    rfl
  simp only [execOp, Sem.run_bind, h1, Result.andThen_ok]
  exact ⟨M, _, .refl M, hs.alloc _, rfl, w.heap.size, rfl, rfl⟩

/-! ### structs and arrays as values -/
def fldPlace (P : Program) (T : TypeId) : Option (List (Nat × Nat)) := match P.underlying T with
  | some (.struct fs) => fs.toList.mapM fun f => (P.info? f.type).map fun i => (f.offset, i.size)
  | _ => none
theorem run_places {P : Program} : ∀ (l : List Field) (ps : List (Nat × Nat)) (w : World), l.mapM (fun f => (P.info? f.type).map fun i => (f.offset, i.size)) = some ps →
    (l.mapM (m := Sem) fun f => do pure (f.offset, ← sizeOf f.type)).run P w = .ok ps w
  | [], ps, w, h => by
    simp at h; subst h; rfl
  | f :: l, ps, w, h => by
    rw [List.mapM_cons] at h
    cases e : P.info? f.type with
    | none => rw [e] at h; cases h
    | some i =>
      rw [e] at h
      simp only [Option.map_some, Option.bind_eq_bind, Option.bind_some] at h
      cases e2 : l.mapM (fun f => (P.info? f.type).map fun i => (f.offset, i.size)) with
      | none => rw [e2] at h; cases h
      | some qs =>
        rw [e2] at h
        simp only [Option.bind_some, Option.pure_def, Option.some.injEq] at h
        subst h
        have ih := run_places l qs w e2
        rw [List.mapM_cons]
        simp only [Sem.run_bind, run_sizeOf_some (show (P.info? f.type).map (·.size) = some i.size by rw [e]; rfl), Result.andThen_ok, Sem.run_pure, ih]

theorem PO.build {t : TypeId} {parts : Array (Nat × Operand)} {z : Value} {ps : List (Nat × Nat)} {cs : Array Value} (hz : (P.info? t).map (·.zero) = some (some z)) (hp : fldPlace P t = some ps)
    (hf : Instr.fill (ps[·]?) z.cells ((parts.map fun (i, x) => (i, ev ρ x)).toList) = some cs) : PO P ⟨d, .build t parts, ty, pos, af, g⟩ ρ M H (.agg cs) := fun w _ => by
  obtain ⟨i, hi, hz⟩ := Option.map_eq_some_iff.1 hz
  unfold fldPlace at hp
  cases e : P.underlying t with
  | none => rw [e] at hp; cases hp
  | some ds =>
    rw [e] at hp
    cases ds <;> try (cases hp; done)
    rename_i fs
    simp only at hp
    have hpl : (fs.mapM (m := Sem) fun f => do pure (f.offset, ← sizeOf f.type)).run P w = .ok ps.toArray w := by
      rw [← Array.toArray_toList (xs := fs), List.mapM_toArray]
      have := run_places fs.toList ps w hp
      simp only [bind_pure_comp] at this
      simp [this]
    have h1 : (Instr.build t (parts.map fun (i, x) => (i, ev ρ x))).run P w = .ok (.agg cs) w := by
      have hf' : Instr.fill (fun i => ps.toArray[i]?) z.cells ((parts.map fun (i, x) => (i, ev ρ x)).toList) = some cs := by simpa using hf
      simp only [Instr.build, zeroValue, Sem.run_bind, run_typeInfo w hi, Result.andThen_ok, hz, run_underlying e, Sem.run_pure, hpl, hf']
    simp only [execOp, Sem.run_bind, h1, Result.andThen_ok]; rfl
end
end Go.KK
