/- New rows (literals, make), copy, stores into owned rows; texts from bytes and bytes from texts; parts of struct values. -/
import Derived.Test.YtpmofealbmapiaaDoorKMem4
set_option linter.unusedSimpArgs false
namespace Go.KK
open Go

theorem RowsOf.one {α : Type} {d : Kd α} {M : IM} {f : Nat → Option Value} (val : α → Value) (hz : d.sz = 1) (hr : ∀ x, d.rc M [val x] x) : ∀ {xs : List α}, (∀ i (h : i < xs.length), f i = some (val xs[i])) → RowsOf d M f xs :=
  fun {xs} h i hi => ⟨[val xs[i]], hr _, fun j u hj => by
    cases j with
    | zero => simp at hj; subst hj; rw [hz, Nat.mul_one, Nat.add_zero]; exact h i hi
    | succ j => simp at hj⟩

/-- A row's elements, each with its cells. -/
inductive Rows {α : Type} (d : Kd α) (M : IM) : List (List Value) → List α → Prop
  | nil : Rows d M [] []
  | cons {cs : List Value} {x : α} {css : List (List Value)} {xs : List α} (h : d.rc M cs x) (k : Rows d M css xs) : Rows d M (cs :: css) (x :: xs)

theorem Rows.of {α : Type} {d : Kd α} {M : IM} {css : List (List Value)} {xs : List α} (h : Rows d M css xs) : RowsOf d M (fun j => css.flatten[j]?) xs ∧ css.flatten.length = xs.length * d.sz := by
  induction h with
  | nil => exact ⟨.nil _ _ _, by simp⟩
  | @cons cs x css xs h k ih =>
    have hl := d.len h
    refine ⟨?_, by rw [List.flatten_cons, List.length_append, ih.2, hl, List.length_cons, Nat.add_mul, Nat.one_mul, Nat.add_comm]⟩
    refine RowsOf.append (xs := [x]) (g := fun j => css.flatten[j]?) ?_ ih.1 ?_
    · intro i hi
      simp at hi; subst hi
      refine ⟨cs, h, fun j u hj => ?_⟩
      have := (List.getElem?_eq_some_iff.1 hj).1
      rw [Nat.zero_mul, Nat.zero_add]
      show (cs :: css).flatten[j]? = _
      rw [List.flatten_cons, List.getElem?_append_left this]; exact hj
    · intro j u _ hu
      simp only [List.length_singleton, Nat.one_mul]
      show (cs :: css).flatten[_]? = _
      rw [List.flatten_cons, List.getElem?_append_right (by omega), show d.sz + j - cs.length = j by omega]; exact hu

theorem OwnS.rows {α : Type} {d : Kd α} {M : IM} {b n : Nat} {T : TypeId} {cs : Array Value} {css : List (List Value)} {xs : List α} (h : Rows d M css xs) (he : css.flatten = cs.toList) (hn : xs.length = n) :
    OwnS d M (.slice (some ⟨b, 0, none⟩) n n) xs [(b, .cells cs T (0, 0))] := by
  obtain ⟨h1, h2⟩ := h.of
  subst hn
  refine ⟨_, _, _, rfl, rfl, Nat.le_refl _, .inr ⟨b, 0, cs, T, (0, 0), rfl, rfl, ?_, .inl rfl, ?_⟩⟩
  · rw [Nat.zero_add, ← h2, he]; simp
  · refine h1.mono (.refl M) fun j u hj => ?_
    rw [he] at hj
    rw [Nat.zero_add]; simpa using hj

section
variable {P : Program} {ρ : Nat → Value} {M : IM} {H : HL} {d : Option Nat} {ty : TypeId} {pos : String} {af : Array Edge} {g : Option (Nat × Bool)}

theorem map_range0 (f : Nat → Value) : (Array.range 0).map f = #[] := by rw [Array.range_zero']; exact Array.map_empty
theorem EO.buildSlice {t e : TypeId} {n sz : Nat} {parts : Array (Nat × Operand)} {z : Value} {cs : Array Value} (hu : P.underlying t = some (.slice e)) (hi : (P.info? e).map (fun i => (i.size, i.zero)) = some (sz, some z)) (hl : n * sz ≤ 16777216)
    (hf : Instr.fill (fun i => some (i * sz, sz)) ((Array.range (n * sz)).map (z.cells[· % z.cells.size]!)) ((parts.map fun (i, x) => (i, ev ρ x)).toList) = some cs) :
    EO P ⟨d, .buildSlice t n parts, ty, pos, af, g⟩ ρ M H fun v M' H' => M = M' ∧ ∃ b, v = .slice (some ⟨b, 0, none⟩) n n ∧ H' = [(b, .cells cs e (0, 0))] :: H := by
  intro w hs
  obtain ⟨i, hi, hz⟩ := Option.map_eq_some_iff.1 hi
  simp only [Prod.mk.injEq] at hz
  obtain ⟨hz1, hz2⟩ := hz
  have hzero : (zeroValue e).run P w = .ok z w := by simp [zeroValue, run_typeInfo w hi, hz2]
  have hsz : (sizeOf e).run P w = .ok sz w := by simp [sizeOf, run_typeInfo w hi, hz1]
  have h1 : (Instr.buildSlice t n (parts.map fun (i, x) => (i, ev ρ x))).run P w = .ok (.slice (some ⟨w.heap.size, 0, none⟩) n n) (w.alloc (.cells cs e)) := by
    simp only [Instr.buildSlice, Sem.run_bind, run_underlying hu, Result.andThen_ok, hsz]
    rw [if_neg (by have : 2 ^ 24 = 16777216 := by decide
                   omega)]
    by_cases h0 : n * sz = 0
    · simp only [Sem.run_bind, if_pos h0, Sem.run_pure, Result.andThen_ok]
      rw [h0] at hf ⊢
      have hf0 : Instr.fill (fun i => some (i * sz, sz)) ((Array.range 0).map ((#[] : Array Value)[· % (#[] : Array Value).size]!)) ((parts.map fun (i, x) => (i, ev ρ x)).toList) = some cs := by
        rw [show (Array.range 0).map ((#[] : Array Value)[· % (#[] : Array Value).size]!) = (Array.range 0).map (z.cells[· % z.cells.size]!) from by rw [map_range0, map_range0]]; exact hf
      simp only [hf0, newRow, newObj]
      rfl
    · simp only [Sem.run_bind, if_neg h0, hzero, Sem.run_pure, Result.andThen_ok, hf, newRow, newObj]
      rfl
  simp only [execOp, Sem.run_bind, h1, Result.andThen_ok]
  exact ⟨M, _, .refl M, hs.alloc _, rfl, w.heap.size, rfl, rfl⟩

/-- make of numbers (or bools): all are nought. -/
theorem EO.makeSlice {α : Type} {dd : Kd α} {t e : TypeId} {l c : Operand} {n : Int} {bytes : Nat} {zv : Value} {z : α} (hu : P.underlying t = some (.slice e)) (hi : (P.info? e).map (fun i => (i.size, i.bytes, i.zero)) = some (1, bytes, some zv)) (hz1 : dd.sz = 1)
    (hzc : zv.cells = #[zv]) (hrc : dd.rc M [zv] z) (hl : ev ρ l = .int .i64 n) (hc : ev ρ c = .int .i64 n) (h0 : 0 ≤ n) (hb0 : 0 < bytes) (hb : n * bytes ≤ 281474976710656) :
    EO P ⟨d, .makeSlice t l c, ty, pos, af, g⟩ ρ M H fun v M' H' => M = M' ∧ ∃ ch, H' = ch :: H ∧ OwnS dd M v (List.replicate n.toNat z) ch := by
  intro w hs
  obtain ⟨i, hi, hz⟩ := Option.map_eq_some_iff.1 hi
  simp only [Prod.mk.injEq] at hz
  obtain ⟨hs1, hs2, hs3⟩ := hz
  obtain ⟨m, rfl⟩ := Int.eq_ofNat_of_zero_le h0
  have hm : m ≤ 281474976710656 := by
    have h2 : (m : Int) * 1 ≤ m * bytes := Int.mul_le_mul_of_nonneg_left (by omega) (by omega)
    omega
  have hw : IntKind.i64.wrap (m : Int) = m := by
    have := IntWalk.i64_in (m : Int) (by omega)
    exact this
  have hzero : ∀ w : World, (zeroValue e).run P w = .ok zv w := fun w => by simp [zeroValue, run_typeInfo w hi, hs3]
  have hsz : ∀ w : World, (sizeOf e).run P w = .ok 1 w := fun w => by simp [sizeOf, run_typeInfo w hi, hs1]
  have hask : (askRoom (m * i.bytes)).run P w = .ok () w := by
    unfold askRoom
    split <;> simp [mark, Sem.run]
  have hno : ¬ (((decide ((m : Int) < 0) || decide ((i.bytes : Int) * m > 2 ^ 48)) = true ∨ (m : Int) < 0) ∨ (m : Int) > m) := by
    rw [hs2]
    have : (2 : Int) ^ 48 = 281474976710656 := by decide
    have h3 : (bytes : Int) * m = m * bytes := Int.mul_comm _ _
    rw [h3]
    simp only [Bool.or_eq_true, decide_eq_true_eq]
    omega
  let arr : Array Value := (Array.range m).map fun j => (zv.cells[j % zv.cells.size]!)
  have harr : arr = (List.replicate m zv).toArray := by
    apply Array.ext
    · simp [arr]
    · intro j h1 h2
      simp [arr, hzc, Nat.mod_one]
  have h1 : (Instr.makeSlice t (.int .i64 m) (.int .i64 m)).run P w = .ok (.slice (some ⟨w.heap.size, 0, none⟩) m m) (w.alloc (.cells arr e)) := by
    simp only [Instr.makeSlice, Sem.run_bind, run_underlying hu, Result.andThen_ok, asInt, asIntOf, pure_bind, Sem.run_pure, run_typeInfo w hi, hw]
    simp only [Bool.or_eq_true, decide_eq_true_eq] at hno ⊢
    rw [if_neg (by first | exact hno | (intro h; apply hno; rcases h with (h | h) | h <;> simp_all))]
    simp only [Sem.run_bind, Int.toNat_natCast, hask, hsz, Result.andThen_ok, Nat.mul_one]
    by_cases hz0 : m = 0
    · subst hz0
      simp only [if_true, Sem.run_pure, Result.andThen_ok, newRow, newObj, map_range0, arr]
      rfl
    · simp only [if_neg hz0, Sem.run_bind, hzero, Sem.run_pure, Result.andThen_ok, newRow, newObj]
      rfl
  simp only [execOp, hl, hc, Sem.run_bind, h1, Result.andThen_ok]
  refine ⟨M, _, .refl M, hs.alloc _, rfl, _, rfl, _, _, _, rfl, by simp, Nat.le_refl _, .inr ⟨w.heap.size, 0, arr, e, (0, 0), rfl, rfl, by rw [harr, hz1]; simp, .inl rfl, ?_⟩⟩
  intro k hk
  refine ⟨[zv], by rw [List.getElem_replicate]; exact hrc, fun j u hj => ?_⟩
  cases j with
  | succ j => simp at hj
  | zero =>
    simp at hj; subst hj
    simp at hk
    rw [harr, hz1]
    simp [hk]

/-- A store of a whole element of an owned row (one cell each). -/
theorem EO.storeOwn {α : Type} {dd : Kd α} {x y : Operand} {t : TypeId} {p : Addr} {v u : Value} {n : Nat} {i : Int} {xs : List α} {a : α} {c : Chunk}
    (hz : (P.info? t).map (·.size) = some dd.sz) (hx : ev ρ x = .pointer (some p)) (hat : At v dd.sz n i p) (hn : n = xs.length) (h0 : 0 ≤ i) (h1 : i < xs.length) (hy : ev ρ y = u) (hO : OwnS dd M v xs c) (hr : dd.rc M u.cells.toList a) :
    EO P ⟨d, .store t x y, ty, pos, af, g⟩ ρ M (c :: H) fun _ M' H' => M = M' ∧ ∃ c', H' = c' :: H ∧ OwnS dd M v (xs.set i.toNat a) c' := by
  intro w hs
  obtain ⟨ad, m, cap, rfl, rfl, rfl⟩ := hat
  obtain ⟨a', n', cap', e, e', hcap, hO⟩ := hO
  cases e
  rcases hO with ⟨hh, _, _⟩ | ⟨b, off, arr, T, fr, hh, rfl, e3, e4, e5⟩
  · cases hh
  · cases hh
    have hi : i.toNat < xs.length := by omega
    have hul := dd.len hr
    have hb := hs.own (b, .cells arr T fr) (by simp) rfl
    have hfit : off + i.toNat * dd.sz + u.cells.toList.length ≤ arr.size := by
      rw [hul]
      have : (i.toNat + 1) * dd.sz ≤ cap * dd.sz := Nat.mul_le_mul_right _ (by omega)
      rw [Nat.add_mul, Nat.one_mul] at this
      omega
    obtain ⟨w', r1, r2, r3, r4, r5, r6⟩ := run_storeCells_blk (P := P) b (off + i.toNat * dd.sz) T fr u.cells.toList 0 arr w hb (by simpa using hfit) e4 (dd.one hr)
    have h2 : (Instr.storeAt t (.pointer (some (Addr.add ⟨b, off, none⟩ (i.toNat * dd.sz)))) u).run P w = .ok () w' := by
      have hul' : u.cells.size = dd.sz := by simpa using hul
      simp only [Instr.storeAt, Instr.sureAddr, pure_bind, storeVar, Sem.run_bind, run_sizeOf_some hz, Result.andThen_ok, hul', ne_eq, not_true_eq_false, if_false, add_lit]
      exact r1
    simp only [execOp, hx, hy, Sem.run_bind, h2, Result.andThen_ok]
    refine ⟨M, _, .refl M, hs.write r4 r5 r6 r2 r3, rfl, _, rfl, _, _, _, rfl, by simpa using e', hcap, .inr ⟨b, off, _, T, fr, rfl, rfl, by rw [putL_size]; exact e3, by rw [putL_size]; exact e4, ?_⟩⟩
    refine e5.set i.toNat a _ hr ?_ ?_
    · intro j w2 hj
      have hjl : j < u.cells.toList.length := (List.getElem?_eq_some_iff.1 hj).1
      show (putL arr _ _)[_]? = _
      rw [putL_get _ _ _ _ (by simpa using hfit), if_pos (by omega)]
      rw [show off + (i.toNat * dd.sz + j) - (off + i.toNat * dd.sz + 0) = j by omega]; exact hj
    · intro j hj
      show (putL arr _ _)[_]? = arr[_]?
      rw [putL_get _ _ _ _ (by simpa using hfit), if_neg (by omega)]

/-- A store into one cell of an element of an owned row. -/
theorem EO.storeOwnF {α : Type} [Inhabited α] {dd : Kd α} {x y : Operand} {t : TypeId} {p : Addr} {v u : Value} {n k : Nat} {i : Int} {xs : List α} {a : α} {c : Chunk}
    (hz : (P.info? t).map (·.size) = some 1) (hx : ev ρ x = .pointer (some (p.add k))) (hat : At v dd.sz n i p) (hn : n = xs.length) (h0 : 0 ≤ i) (h1 : i < xs.length) (hk : k < dd.sz) (hy : ev ρ y = u) (hu1 : u.cells = #[u]) (hO : OwnS dd M v xs c)
    (hr : ∀ cs, dd.rc M cs (rd xs i) → dd.rc M (cs.set k u) a) :
    EO P ⟨d, .store t x y, ty, pos, af, g⟩ ρ M (c :: H) fun _ M' H' => M = M' ∧ ∃ c', H' = c' :: H ∧ OwnS dd M v (xs.set i.toNat a) c' := by
  intro w hs
  obtain ⟨ad, m, cap, rfl, rfl, rfl⟩ := hat
  obtain ⟨a', n', cap', e, e', hcap, hO⟩ := hO
  cases e
  rcases hO with ⟨hh, _, _⟩ | ⟨b, off, arr, T, fr, hh, rfl, e3, e4, e5⟩
  · cases hh
  · cases hh
    have hi : i.toNat < xs.length := by omega
    obtain ⟨cs, hrc, hm⟩ := e5 i.toNat hi
    have erd : rd xs i = xs[i.toNat] := by simp [rd, List.getD_eq_getElem?_getD, List.getElem?_eq_getElem hi]
    have hr' := hr cs (by rw [erd]; exact hrc)
    have hcl := dd.len hrc
    have hu0 : u.oneCell' = true := dd.one hr' u (List.mem_iff_getElem?.2 ⟨k, List.getElem?_set_self (by omega)⟩)
    have hb := hs.own (b, .cells arr T fr) (by simp) rfl
    have hfit : off + (i.toNat * dd.sz + k) + [u].length ≤ arr.size := by
      simp only [List.length_singleton]
      have : (i.toNat + 1) * dd.sz ≤ cap * dd.sz := Nat.mul_le_mul_right _ (by omega)
      rw [Nat.add_mul, Nat.one_mul] at this
      omega
    obtain ⟨w', r1, r2, r3, r4, r5, r6⟩ := run_storeCells_blk (P := P) b (off + (i.toNat * dd.sz + k)) T fr [u] 0 arr w hb (by simpa using hfit) e4 (fun x hx => by simp at hx; subst hx; exact hu0)
    have h2 : (Instr.storeAt t (.pointer (some ((Addr.add ⟨b, off, none⟩ (i.toNat * dd.sz)).add k))) u).run P w = .ok () w' := by
      have hul' : u.cells.size = 1 := by rw [hu1]; rfl
      simp only [Instr.storeAt, Instr.sureAddr, pure_bind, storeVar, Sem.run_bind, run_sizeOf_some hz, Result.andThen_ok, hul', ne_eq, not_true_eq_false, if_false, add_lit]
      rw [hu1, Nat.add_assoc]
      exact r1
    simp only [execOp, hx, hy, Sem.run_bind, h2, Result.andThen_ok]
    refine ⟨M, _, .refl M, hs.write r4 r5 r6 r2 r3, rfl, _, rfl, _, _, _, rfl, by simpa using e', hcap, .inr ⟨b, off, _, T, fr, rfl, rfl, by rw [putL_size]; exact e3, by rw [putL_size]; exact e4, ?_⟩⟩
    have hget : ∀ j, (putL arr (off + (i.toNat * dd.sz + k) + 0) [u])[off + j]? = if j = i.toNat * dd.sz + k then some u else arr[off + j]? := fun j => by
      rw [putL_get _ _ _ _ (by simpa using hfit)]
      by_cases hj : j = i.toNat * dd.sz + k
      · subst hj; rw [if_pos (by simp), if_pos rfl]; simp
      · rw [if_neg (by simp; omega), if_neg hj]
    refine e5.set i.toNat a _ hr' ?_ ?_
    · intro j w2 hj
      show (putL arr _ _)[_]? = _
      rw [hget]
      by_cases e : j = k
      · subst e
        rw [if_pos rfl]
        rw [List.getElem?_set_self (by omega)] at hj; exact hj
      · rw [if_neg (by omega)]
        rw [List.getElem?_set_ne (Ne.symm e)] at hj
        exact hm j w2 hj
    · intro j hj
      show (putL arr _ _)[_]? = arr[_]?
      rw [hget, if_neg (by omega)]
end
end Go.KK
