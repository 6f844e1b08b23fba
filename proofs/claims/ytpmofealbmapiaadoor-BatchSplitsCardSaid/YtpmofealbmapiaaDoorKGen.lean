/- Small words that the printed walks use. -/
import Derived.Test.YtpmofealbmapiaaDoorKErr
import Derived.Test.YtpmofealbmapiaaDoorKDraw
set_option linter.unusedVariables false
namespace Go.KK
open Go

theorem args0 {ρ : Nat → Value}  : (#[] : Array Operand).map (ev ρ) = #[] := by simp
theorem argsV0 {ρ : Nat → Value} {f c : Array Value} {r : Array Value}  (hr : f ++ #[] ++ c = r) : f ++ (#[] : Array Operand).map (ev ρ) ++ c = r := by rw [args0]; exact hr
theorem args1 {ρ : Nat → Value} {x0 : Operand} {v0 : Value} (h0 : ev ρ x0 = v0) : (#[x0] : Array Operand).map (ev ρ) = #[v0] := by simp [h0]
theorem argsV1 {ρ : Nat → Value} {f c : Array Value} {r : Array Value} {x0 : Operand} {v0 : Value} (h0 : ev ρ x0 = v0) (hr : f ++ #[v0] ++ c = r) : f ++ (#[x0] : Array Operand).map (ev ρ) ++ c = r := by rw [args1 h0]; exact hr
theorem args2 {ρ : Nat → Value} {x0 x1 : Operand} {v0 v1 : Value} (h0 : ev ρ x0 = v0) (h1 : ev ρ x1 = v1) : (#[x0, x1] : Array Operand).map (ev ρ) = #[v0, v1] := by simp [h0, h1]
theorem argsV2 {ρ : Nat → Value} {f c : Array Value} {r : Array Value} {x0 x1 : Operand} {v0 v1 : Value} (h0 : ev ρ x0 = v0) (h1 : ev ρ x1 = v1) (hr : f ++ #[v0, v1] ++ c = r) : f ++ (#[x0, x1] : Array Operand).map (ev ρ) ++ c = r := by rw [args2 h0 h1]; exact hr
theorem args3 {ρ : Nat → Value} {x0 x1 x2 : Operand} {v0 v1 v2 : Value} (h0 : ev ρ x0 = v0) (h1 : ev ρ x1 = v1) (h2 : ev ρ x2 = v2) : (#[x0, x1, x2] : Array Operand).map (ev ρ) = #[v0, v1, v2] := by simp [h0, h1, h2]
theorem argsV3 {ρ : Nat → Value} {f c : Array Value} {r : Array Value} {x0 x1 x2 : Operand} {v0 v1 v2 : Value} (h0 : ev ρ x0 = v0) (h1 : ev ρ x1 = v1) (h2 : ev ρ x2 = v2) (hr : f ++ #[v0, v1, v2] ++ c = r) : f ++ (#[x0, x1, x2] : Array Operand).map (ev ρ) ++ c = r := by rw [args3 h0 h1 h2]; exact hr
theorem args4 {ρ : Nat → Value} {x0 x1 x2 x3 : Operand} {v0 v1 v2 v3 : Value} (h0 : ev ρ x0 = v0) (h1 : ev ρ x1 = v1) (h2 : ev ρ x2 = v2) (h3 : ev ρ x3 = v3) : (#[x0, x1, x2, x3] : Array Operand).map (ev ρ) = #[v0, v1, v2, v3] := by simp [h0, h1, h2, h3]
theorem argsV4 {ρ : Nat → Value} {f c : Array Value} {r : Array Value} {x0 x1 x2 x3 : Operand} {v0 v1 v2 v3 : Value} (h0 : ev ρ x0 = v0) (h1 : ev ρ x1 = v1) (h2 : ev ρ x2 = v2) (h3 : ev ρ x3 = v3) (hr : f ++ #[v0, v1, v2, v3] ++ c = r) : f ++ (#[x0, x1, x2, x3] : Array Operand).map (ev ρ) ++ c = r := by rw [args4 h0 h1 h2 h3]; exact hr
theorem args5 {ρ : Nat → Value} {x0 x1 x2 x3 x4 : Operand} {v0 v1 v2 v3 v4 : Value} (h0 : ev ρ x0 = v0) (h1 : ev ρ x1 = v1) (h2 : ev ρ x2 = v2) (h3 : ev ρ x3 = v3) (h4 : ev ρ x4 = v4) : (#[x0, x1, x2, x3, x4] : Array Operand).map (ev ρ) = #[v0, v1, v2, v3, v4] := by simp [h0, h1, h2, h3, h4]
theorem argsV5 {ρ : Nat → Value} {f c : Array Value} {r : Array Value} {x0 x1 x2 x3 x4 : Operand} {v0 v1 v2 v3 v4 : Value} (h0 : ev ρ x0 = v0) (h1 : ev ρ x1 = v1) (h2 : ev ρ x2 = v2) (h3 : ev ρ x3 = v3) (h4 : ev ρ x4 = v4) (hr : f ++ #[v0, v1, v2, v3, v4] ++ c = r) : f ++ (#[x0, x1, x2, x3, x4] : Array Operand).map (ev ρ) ++ c = r := by rw [args5 h0 h1 h2 h3 h4]; exact hr
theorem args6 {ρ : Nat → Value} {x0 x1 x2 x3 x4 x5 : Operand} {v0 v1 v2 v3 v4 v5 : Value} (h0 : ev ρ x0 = v0) (h1 : ev ρ x1 = v1) (h2 : ev ρ x2 = v2) (h3 : ev ρ x3 = v3) (h4 : ev ρ x4 = v4) (h5 : ev ρ x5 = v5) : (#[x0, x1, x2, x3, x4, x5] : Array Operand).map (ev ρ) = #[v0, v1, v2, v3, v4, v5] := by simp [h0, h1, h2, h3, h4, h5]
theorem argsV6 {ρ : Nat → Value} {f c : Array Value} {r : Array Value} {x0 x1 x2 x3 x4 x5 : Operand} {v0 v1 v2 v3 v4 v5 : Value} (h0 : ev ρ x0 = v0) (h1 : ev ρ x1 = v1) (h2 : ev ρ x2 = v2) (h3 : ev ρ x3 = v3) (h4 : ev ρ x4 = v4) (h5 : ev ρ x5 = v5) (hr : f ++ #[v0, v1, v2, v3, v4, v5] ++ c = r) : f ++ (#[x0, x1, x2, x3, x4, x5] : Array Operand).map (ev ρ) ++ c = r := by rw [args6 h0 h1 h2 h3 h4 h5]; exact hr
theorem args7 {ρ : Nat → Value} {x0 x1 x2 x3 x4 x5 x6 : Operand} {v0 v1 v2 v3 v4 v5 v6 : Value} (h0 : ev ρ x0 = v0) (h1 : ev ρ x1 = v1) (h2 : ev ρ x2 = v2) (h3 : ev ρ x3 = v3) (h4 : ev ρ x4 = v4) (h5 : ev ρ x5 = v5) (h6 : ev ρ x6 = v6) : (#[x0, x1, x2, x3, x4, x5, x6] : Array Operand).map (ev ρ) = #[v0, v1, v2, v3, v4, v5, v6] := by simp [h0, h1, h2, h3, h4, h5, h6]
theorem argsV7 {ρ : Nat → Value} {f c : Array Value} {r : Array Value} {x0 x1 x2 x3 x4 x5 x6 : Operand} {v0 v1 v2 v3 v4 v5 v6 : Value} (h0 : ev ρ x0 = v0) (h1 : ev ρ x1 = v1) (h2 : ev ρ x2 = v2) (h3 : ev ρ x3 = v3) (h4 : ev ρ x4 = v4) (h5 : ev ρ x5 = v5) (h6 : ev ρ x6 = v6) (hr : f ++ #[v0, v1, v2, v3, v4, v5, v6] ++ c = r) : f ++ (#[x0, x1, x2, x3, x4, x5, x6] : Array Operand).map (ev ρ) ++ c = r := by rw [args7 h0 h1 h2 h3 h4 h5 h6]; exact hr
theorem args8 {ρ : Nat → Value} {x0 x1 x2 x3 x4 x5 x6 x7 : Operand} {v0 v1 v2 v3 v4 v5 v6 v7 : Value} (h0 : ev ρ x0 = v0) (h1 : ev ρ x1 = v1) (h2 : ev ρ x2 = v2) (h3 : ev ρ x3 = v3) (h4 : ev ρ x4 = v4) (h5 : ev ρ x5 = v5) (h6 : ev ρ x6 = v6) (h7 : ev ρ x7 = v7) : (#[x0, x1, x2, x3, x4, x5, x6, x7] : Array Operand).map (ev ρ) = #[v0, v1, v2, v3, v4, v5, v6, v7] := by simp [h0, h1, h2, h3, h4, h5, h6, h7]
theorem argsV8 {ρ : Nat → Value} {f c : Array Value} {r : Array Value} {x0 x1 x2 x3 x4 x5 x6 x7 : Operand} {v0 v1 v2 v3 v4 v5 v6 v7 : Value} (h0 : ev ρ x0 = v0) (h1 : ev ρ x1 = v1) (h2 : ev ρ x2 = v2) (h3 : ev ρ x3 = v3) (h4 : ev ρ x4 = v4) (h5 : ev ρ x5 = v5) (h6 : ev ρ x6 = v6) (h7 : ev ρ x7 = v7) (hr : f ++ #[v0, v1, v2, v3, v4, v5, v6, v7] ++ c = r) : f ++ (#[x0, x1, x2, x3, x4, x5, x6, x7] : Array Operand).map (ev ρ) ++ c = r := by rw [args8 h0 h1 h2 h3 h4 h5 h6 h7]; exact hr

theorem appB {n bytes : Nat} (hb : Nat.ble bytes 512 = true) (h : n ≤ 274877906944) : 2 * n * bytes ≤ 281474976710656 := by
  have h1 : bytes ≤ 512 := Nat.le_of_ble_eq_true hb
  calc 2 * n * bytes ≤ 2 * n * 512 := Nat.mul_le_mul_left _ h1
    _ ≤ _ := by omega
theorem makeB {n : Int} {bytes : Nat} (hb : Nat.ble bytes 512 = true) (h0 : 0 ≤ n) (h : n ≤ 274877906944) : n * bytes ≤ 281474976710656 := by
  have h1 : bytes ≤ 512 := Nat.le_of_ble_eq_true hb
  calc n * bytes ≤ n * 512 := Int.mul_le_mul_of_nonneg_left (by omega) h0
    _ ≤ _ := by omega
theorem bound0 {ρ : Nat → Value} {l : Nat} (h : l = 0) : boundN ρ none 0 l := h
theorem boundN_ {ρ : Nat → Value} {l n : Nat} (h : l = n) : boundN ρ none n l := h
theorem toNat_le_len {h : Int} {n : Nat} (k : h ≤ (n : Int)) : h.toNat ≤ n := by omega
def btAt (s : ByteArray) (i : Int) : Int := (((s[i.toNat]?).getD 0).toNat : Int)
theorem strAt {s : ByteArray} {i : Int} (h : 0 ≤ i ∧ i < s.size) : s[i.toNat]? = some ((s[i.toNat]?).getD 0) := by
  have h1 : i.toNat < s.size := by omega
  rw [getElem?_pos s i.toNat h1]; rfl
theorem add_zero' (p : Addr) : p.add 0 = p := by simp [Addr.add]
theorem ptr0 (p : Addr) : Value.pointer (some p) = .pointer (some (p.add 0)) := by rw [add_zero']
theorem IM.has0 {M : IM} {p : Addr} {v : Value} {r : List Value} (h : M.has p (v :: r)) : M.cell p = some v := by have := h 0 v rfl; rwa [add_zero'] at this
theorem chunkHas0 {c : Chunk} {p : Addr} {v : Value} {r : List Value} (h : chunkHas c p (v :: r)) : chunkCell c p = some v := by have := h 0 v rfl; rwa [add_zero'] at this
def Ones (l : List Value) : Prop := ∀ u ∈ l, u.oneCell' = true
theorem Ones.nil : Ones [] := fun _ h => by cases h
theorem Ones.cons {v : Value} {l : List Value} (h : v.oneCell' = true) (k : Ones l) : Ones (v :: l) := fun u hu => by
  rcases List.mem_cons.1 hu with rfl | hu
  · exact h
  · exact k u hu
theorem onesOf {l : List Value} (h : Ones l) : ∀ u ∈ l, u.oneCell' = true := h
theorem onesErr (tc tf tp : TypeId) (e : GErr) : ∀ u ∈ (e.val tc tf tp).cells.toList, u.oneCell' = true := by rw [GErr.val_cells]; exact Ones.cons (GErr.val_one _ _ _ _) .nil
theorem RS.one {α : Type} {d : Kd α} {M : IM} {v : Value} {xs : List α} (h : RS d M v xs) : v.oneCell' = true := by obtain ⟨a, n, cap, rfl, _⟩ := h; rfl
theorem OwnS.one {α : Type} {d : Kd α} {M : IM} {v : Value} {xs : List α} {c : Chunk} (h : OwnS d M v xs c) : v.oneCell' = true := by obtain ⟨a, n, cap, rfl, _⟩ := h; rfl
theorem RS.cells {α : Type} {d : Kd α} {M : IM} {v : Value} {xs : List α} (h : RS d M v xs) : v.cells = #[v] := by obtain ⟨a, n, cap, rfl, _⟩ := h; rfl
theorem OwnS.cells {α : Type} {d : Kd α} {M : IM} {v : Value} {xs : List α} {c : Chunk} (h : OwnS d M v xs c) : v.cells = #[v] := by obtain ⟨a, n, cap, rfl, _⟩ := h; rfl

/-- A kind whose cells lead nowhere. -/
def Kd.Flat {α : Type} (d : Kd α) : Prop := ∀ (M M' : IM) (cs : List Value) (x : α), d.rc M cs x → d.rc M' cs x
theorem Kd.int_flat (k : IntKind) : (Kd.int k).Flat := fun _ _ _ _ h => h
theorem Kd.bool_flat : Kd.bool.Flat := fun _ _ _ _ h => h
theorem Kd.str_flat : Kd.str.Flat := fun _ _ _ _ h => h
theorem OwnS.any {α : Type} {d : Kd α} {M : IM} {v : Value} {xs : List α} {c : Chunk} (h : OwnS d M v xs c) (hf : d.Flat) {M' : IM} : OwnS d M' v xs c := by
  obtain ⟨a, n, cap, h1, h2, h3, h4⟩ := h
  refine ⟨a, n, cap, h1, h2, h3, h4.imp id ?_⟩
  rintro ⟨g, off, arr, T, fr, e1, e2, e3, e4, e5⟩
  exact ⟨g, off, arr, T, fr, e1, e2, e3, e4, fun i hi => let ⟨cs, r, m⟩ := e5 i hi; ⟨cs, hf _ _ _ _ r, m⟩⟩

/-! ### literals, cell by cell -/
def setsL (cells : List Value) (off : Nat) : List Value → List Value
  | [] => cells
  | v :: r => setsL (cells.set off v) (off + 1) r
def fillL (place : Nat → Option (Nat × Nat)) (cells : List Value) : List (Nat × List Value) → Option (List Value)
  | [] => some cells
  | (i, cs) :: rest => match place i with
    | none => none
    | some (off, size) => bif Nat.beq cs.length size && Nat.ble (off + cs.length) cells.length then fillL place (setsL cells off cs) rest else none
def initL (z : List Value) (n : Nat) : List Value := (List.range n).map fun j => z.getD (j % z.length) default
theorem setsL_length : ∀ (cs cells : List Value) (off : Nat), (setsL cells off cs).length = cells.length
  | [], _, _ => rfl
  | v :: r, cells, off => by rw [setsL, setsL_length r]; simp
theorem foldl_sets : ∀ (l : List Value) (k off : Nat) (cells : List Value), (l.zipIdx k).foldl (fun (cs : Array Value) (x : Value × Nat) => cs.setIfInBounds (off + x.2) x.1) cells.toArray = (setsL cells (off + k) l).toArray
  | [], _, _, _ => rfl
  | v :: r, k, off, cells => by
    rw [List.zipIdx_cons, List.foldl_cons]
    simp only [List.setIfInBounds_toArray]
    rw [foldl_sets r (k + 1) off, setsL]; rfl
inductive Parts (ρ : Nat → Value) : List (Nat × Operand) → List (Nat × List Value) → Prop
  | nil : Parts ρ [] []
  | cons {i : Nat} {x : Operand} {cs : List Value} {pl : List (Nat × Operand)} {vs : List (Nat × List Value)} (h : (ev ρ x).cells = cs.toArray) (k : Parts ρ pl vs) : Parts ρ ((i, x) :: pl) ((i, cs) :: vs)
theorem fill_of {ρ : Nat → Value} {place : Nat → Option (Nat × Nat)} {pl : List (Nat × Operand)} {vs : List (Nat × List Value)} (h : Parts ρ pl vs) : ∀ {cells out : List Value}, fillL place cells vs = some out →
    Instr.fill place cells.toArray (pl.map fun (i, x) => (i, ev ρ x)) = some out.toArray := by
  induction h with
  | nil => intro cells out h; simp only [fillL, Option.some.injEq] at h; subst h; rfl
  | @cons i x cs pl vs h k ih =>
    intro cells out hf
    simp only [fillL] at hf
    simp only [List.map_cons, Instr.fill]
    cases hp : place i with
    | none => rw [hp] at hf; cases hf
    | some os =>
      obtain ⟨off, size⟩ := os
      rw [hp] at hf
      simp only at hf ⊢
      cases hb : (Nat.beq cs.length size && Nat.ble (off + cs.length) cells.length) with
      | false => rw [hb] at hf; cases hf
      | true =>
        rw [hb] at hf
        simp only [cond_true] at hf
        simp only [Bool.and_eq_true, Nat.beq_eq, Nat.ble_eq] at hb
        have hsz : (ev ρ x).cells.size = cs.length := by rw [h]; simp
        rw [if_neg (by simp only [hsz, List.size_toArray, hb.1]; simp; omega)]
        have e1 : (ev ρ x).cells.zipIdx.foldl (fun cs (c, j) => cs.setIfInBounds (off + j) c) cells.toArray = (setsL cells off cs).toArray := by
          rw [h]
          have := foldl_sets cs 0 off cells
          rw [← Array.foldl_toList]
          simpa using this
        rw [e1]
        exact ih hf
theorem initL_eq (z : Array Value) (n : Nat) : (Array.range n).map (fun j => (z[j % z.size]!)) = (initL z.toList n).toArray := by
  apply Array.ext
  · simp [initL]
  · intro i h1 h2
    simp [initL, List.getD_eq_getElem?_getD, getElem!_def]
    cases z[i % z.size]? <;> rfl

section
variable {P : Program} {ρ : Nat → Value} {M : IM} {H : HL} {d : Option Nat} {ty : TypeId} {pos : String} {af : Array Edge} {g : Option (Nat × Bool)}
theorem PO.buildL {t : TypeId} {pl : List (Nat × Operand)} {vs : List (Nat × List Value)} {z : Value} {ps : List (Nat × Nat)} {cl : List Value} (hz : (P.info? t).map (·.zero) = some (some z)) (hp : fldPlace P t = some ps)
    (hpl : Parts ρ pl vs) (hf : fillL (fun i => ps[i]?) z.cells.toList vs = some cl) : PO P ⟨d, .build t pl.toArray, ty, pos, af, g⟩ ρ M H (.agg cl.toArray) :=
  PO.build hz hp (by
    have := fill_of (place := fun i => ps[i]?) hpl hf
    simpa using this)
theorem EO.buildSliceL {t e : TypeId} {n sz : Nat} {pl : List (Nat × Operand)} {vs : List (Nat × List Value)} {z : Value} {cl : List Value} (hu : P.underlying t = some (.slice e)) (hi : (P.info? e).map (fun i => (i.size, i.zero)) = some (sz, some z)) (hl : Nat.ble (n * sz) 16777216 = true)
    (hpl : Parts ρ pl vs) (hf : fillL (fun i => some (i * sz, sz)) (initL z.cells.toList (n * sz)) vs = some cl) :
    EO P ⟨d, .buildSlice t n pl.toArray, ty, pos, af, g⟩ ρ M H fun v M' H' => M = M' ∧ ∃ b, v = .slice (some ⟨b, 0, none⟩) n n ∧ H' = [(b, .cells cl.toArray e (0, 0))] :: H :=
  EO.buildSlice hu hi (Nat.le_of_ble_eq_true hl) (by
    have := fill_of (place := fun i => some (i * sz, sz)) hpl hf
    rw [initL_eq]
    simpa using this)
end

section
variable {P : Program} {ρ : Nat → Value} {M : IM} {H : HL} {d : Option Nat} {ty : TypeId} {pos : String} {af : Array Edge} {g : Option (Nat × Bool)}
theorem PO.makeFunc2 {fn : Fn} {a b : Array Operand} {u v : Array Value} (ha : a.map (ev ρ) = u) (hb : b.map (ev ρ) = v) : PO P ⟨d, .makeFunc fn a b, ty, pos, af, g⟩ ρ M H (.func fn u v) := fun _ _ => by subst ha hb; rfl
end
end Go.KK
