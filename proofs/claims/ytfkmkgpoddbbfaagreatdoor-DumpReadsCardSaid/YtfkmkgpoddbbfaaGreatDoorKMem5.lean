
import Derived.Test.YtfkmkgpoddbbfaaGreatDoorKMem4
set_option linter.unusedSimpArgs false
namespace Go.KK
open Go
theorem RowsOf.one {α:Type}{d:Kd α}{M:IM}{f:Nat→Option Value}(val:α→Value) (hz:d.sz=1) (hr:∀ x,d.rc M [val x] x):∀ {xs:List α},(∀ i (h:i<xs.length),f i=some (val xs[i]))→RowsOf d M f xs:=
 fun {xs}h i hi=>⟨[val xs[i]],hr _,fun j u hj=>by
  cases j with
  |zero=>simp at hj;subst hj;rw [hz,Nat.mul_one,Nat.add_zero];exact h i hi
  |succ j=>simp at hj⟩
inductive Rows {α:Type}(d:Kd α) (M:IM):List (List Value)→List α→Prop
 |nil:Rows d M [] []
 |cons {cs:List Value}{x:α}{css:List (List Value)}{xs:List α}(h:d.rc M cs x) (k:Rows d M css xs):Rows d M (cs::css) (x::xs)
theorem Rows.of {α:Type}{d:Kd α}{M:IM}{css:List (List Value)}{xs:List α}(h:Rows d M css xs):RowsOf d M (fun j=>css.flatten[j]?) xs∧css.flatten.length=xs.length*d.sz:=by
 induction h with
 |nil=>exact⟨.nil _ _ _,by simp⟩
 |@cons cs x css xs h k ih=>
  have hl:=d.len h
  refine⟨?_,by rw [List.flatten_cons,List.length_append,ih.2,hl,List.length_cons,Nat.add_mul,Nat.one_mul,Nat.add_comm]⟩
  refine RowsOf.append (xs:=[x]) (g:=fun j=>css.flatten[j]?) ?_ ih.1 ?_
  ·intro i hi
   simp at hi;subst hi
   refine⟨cs,h,fun j u hj=> ?_⟩
   have:=(List.getElem?_eq_some_iff.1 hj).1
   rw [Nat.zero_mul,Nat.zero_add]
   show (cs::css).flatten[j]?=_
   rw [List.flatten_cons,List.getElem?_append_left this];exact hj
  ·intro j u _ hu
   simp only [List.length_singleton,Nat.one_mul]
   show (cs::css).flatten[_]?=_
   rw [List.flatten_cons,List.getElem?_append_right (by omega),show d.sz+j - cs.length=j by omega];exact hu
theorem OwnS.rows {α:Type}{d:Kd α}{M:IM}{b n:Nat}{T:TypeId}{cs:Array Value}{css:List (List Value)}{xs:List α}(h:Rows d M css xs) (he:css.flatten=cs.toList) (hn:xs.length=n):
  OwnS d M (.slice (some ⟨b,0,none⟩) n n) xs [(b, .cells cs T (0,0))]:=by
 obtain ⟨h1,h2⟩:=h.of
 subst hn
 refine⟨_,_,_,rfl,rfl,Nat.le_refl _, .inr ⟨b,0,cs,T,(0,0),rfl,rfl, ?_, .inl rfl, ?_⟩⟩
 ·rw [Nat.zero_add,←h2,he];simp
 ·refine h1.mono (.refl M) fun j u hj=> ?_
  rw [he] at hj
  rw [Nat.zero_add];simpa using hj
section
variable {P : Program} {ρ : Nat → Value} {M : IM} {H : HL} {d : Option Nat} {ty : TypeId} {pos : String} {af : Array Edge} {g : Option (Nat × Bool)}
theorem Qv4 (f:Nat→Value):(Array.range 0).map f=#[]:=by rw [Array.range_zero'];exact Array.map_empty
theorem EO.buildSlice {t e : TypeId} {n sz : Nat} {parts : Array (Nat × Operand)} {z : Value} {cs : Array Value} (hu : P.underlying t = some (.slice e)) (hi : (P.info? e).map (fun i => (i.size, i.zero)) = some (sz, some z)) (hl : n * sz ≤ 16777216)
    (hf : Instr.fill (fun i => some (i * sz, sz)) ((Array.range (n * sz)).map (z.cells[· % z.cells.size]!)) ((parts.map fun (i, x) => (i, ev ρ x)).toList) = some cs) :
    EO P ⟨d, .buildSlice t n parts, ty, pos, af, g⟩ ρ M H fun v M' H' => M = M' ∧ ∃ b, v = .slice (some ⟨b, 0, none⟩) n n ∧ H' = [(b, .cells cs e (0, 0))] :: H := by
  intro w hs
  obtain ⟨i, hi, hz⟩ := Option.map_eq_some_iff.1 hi
  simp only [Prod.mk.injEq] at hz
  obtain ⟨hz1, hz2⟩ := hz
  have hzero : (zeroValue e).run P w = .ok z w := by simp [zeroValue, run_typeInfo w hi, hz2]
  have hsz : (sizeOf e).run P w = .ok sz w := by simp [sizeOf, run_typeInfo w hi, hz1]
  have h1 : (Instr.buildSlice t n (parts.map fun (i, x) => (i, ev ρ x))).run P w = .ok (.slice (some ⟨w.heap.size, 0, none⟩) n n) (w.alloc (.cells cs e)) := by
    simp only [Instr.buildSlice, Sem.run_bind, run_underlying hu, Result.andThen_ok, hsz]
    rw [if_neg (by have : 2 ^ 24 = 16777216 := by decide
                   omega)]
    by_cases h0 : n * sz = 0
    · simp only [Sem.run_bind, if_pos h0, Sem.run_pure, Result.andThen_ok]
      rw [h0] at hf ⊢
      have hf0 : Instr.fill (fun i => some (i * sz, sz)) ((Array.range 0).map ((#[] : Array Value)[· % (#[] : Array Value).size]!)) ((parts.map fun (i, x) => (i, ev ρ x)).toList) = some cs := by
        rw [show (Array.range 0).map ((#[] : Array Value)[· % (#[] : Array Value).size]!) = (Array.range 0).map (z.cells[· % z.cells.size]!) from by rw [Qv4, Qv4]]; exact hf
      simp only [hf0, newRow, newObj]
      rfl
    · simp only [Sem.run_bind, if_neg h0, hzero, Sem.run_pure, Result.andThen_ok, hf, newRow, newObj]
      rfl
  simp only [execOp, Sem.run_bind, h1, Result.andThen_ok]
  exact ⟨M, _, .refl M, hs.alloc _, rfl, w.heap.size, rfl, rfl⟩
end
end Go.KK
