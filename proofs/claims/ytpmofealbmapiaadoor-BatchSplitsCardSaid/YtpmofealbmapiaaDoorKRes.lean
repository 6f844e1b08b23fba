/- Results that stand in memory. -/
import Derived.Test.YtpmofealbmapiaaDoorKGen2
set_option linter.unusedSimpArgs false
set_option linter.unusedVariables false
namespace Go.KK
open Go

def resOne (a : Act) (r : ResultVar) : Sem Value := match r with
  | .tmp t => pure (a.tmps.getD t undef)
  | .cell c t => do loadVar t (← asAddr (a.tmps.getD c undef))
section
variable {P : Program} {n : Nat} {ρ : Nat → Value} {M : IM} {H : HL}
def RV (P : Program) (n : Nat) (ρ : Nat → Value) (M : IM) (H : HL) (r : ResultVar) (v : Value) : Prop := ∀ a w, OkA n a ρ → Sat w M H → (resOne a r).run P w = .ok v w
inductive RVs (P : Program) (n : Nat) (ρ : Nat → Value) (M : IM) (H : HL) : List ResultVar → List Value → Prop
  | nil : RVs P n ρ M H [] []
  | cons {r : ResultVar} {v : Value} {rs : List ResultVar} {vs : List Value} (h : RV P n ρ M H r v) (k : RVs P n ρ M H rs vs) : RVs P n ρ M H (r :: rs) (v :: vs)
theorem RV.tmp {t : Tmp} {v : Value} (h : ρ t = v) : RV P n ρ M H (.tmp t) v := fun a w ha _ => by
  show (pure (a.tmps.getD t undef) : Sem Value).run P w = _
  rw [ha.get, h]; rfl
theorem RV.cellB (k : Nat) {c t : Nat} {b : Nat} {v : Value} {arr : Array Value} {T : TypeId} {fr : Nat × Nat} {ch : Chunk} (ht : plainT P t = true) (hx : ρ c = .pointer (some ⟨b, 0, none⟩)) (hk : H[k]? = some ((b, .cells arr T fr) :: ch)) (hv : arr[0]? = some v) : RV P n ρ M H (.cell c t) v := fun a w ha hs => by
  have h0 : w.cell? ⟨b, 0, none⟩ = some v := hs.cellC k hk (chunkCell_lit.trans hv)
  show (do loadVar t (← asAddr (a.tmps.getD c undef))).run P w = _
  rw [ha.get, hx]
  simp only [asAddr, pure_bind, loadVar, Sem.run_bind, run_isAgg_plain ht, Result.andThen_ok, Bool.false_eq_true, if_false, run_load, h0]
theorem RV.cellA (k : Nat) {c t : Nat} {b : Nat} {cs : List Value} {arr : Array Value} {T : TypeId} {fr : Nat × Nat} {ch : Chunk} (ht : aggB P t = true) (hz : (P.info? t).map (·.size) = some cs.length) (hx : ρ c = .pointer (some ⟨b, 0, none⟩)) (hk : H[k]? = some ((b, .cells arr T fr) :: ch)) (hv : arr.toList = cs) : RV P n ρ M H (.cell c t) (.agg cs.toArray) := fun a w ha hs => by
  have h0 : ∀ j v, cs[j]? = some v → w.cell? (Addr.add ⟨b, 0, none⟩ j) = some v := fun j v hj => by
    rw [add_lit, Nat.zero_add]
    exact hs.cellC k hk (chunkCell_lit.trans (by rw [← hv] at hj; simpa using hj))
  show (do loadVar t (← asAddr (a.tmps.getD c undef))).run P w = _
  rw [ha.get, hx]
  simp only [asAddr, pure_bind, loadVar, Sem.run_bind, run_isAgg_agg ht, Result.andThen_ok, if_true, run_sizeOf_some hz, run_loadCells_list w _ cs h0]
  rfl
theorem RVs.run {a : Act} {w : World} (ha : OkA n a ρ) (hs : Sat w M H) : ∀ {rs : List ResultVar} {vs : List Value}, RVs P n ρ M H rs vs → (rs.mapM (resOne a)).run P w = .ok vs w
  | _, _, .nil => rfl
  | _, _, .cons h k => by
    rw [List.mapM_cons]
    simp only [Sem.run_bind, h a w ha hs, Result.andThen_ok, RVs.run ha hs k, Sem.run_pure]
theorem resultsL {fn : Func} {rs : List ResultVar} {vs : List Value} (h : fn.results = rs.toArray) (k : RVs P n ρ M H rs vs) : ∀ a w, OkA n a ρ → Sat w M H → (results fn a.tmps).run P w = .ok (if h : vs.toArray.size = 1 then vs.toArray[0] else .tuple vs.toArray) w := fun a w ha hs => by
  have e := k.run ha hs
  unfold results
  rw [h, List.mapM_toArray]
  have e3 : (List.toArray <$> rs.mapM (resOne a)).run P w = .ok vs.toArray w := by
    rw [map_eq_pure_bind, Sem.run_bind, e]; rfl
  exact (Sem.run_bind ..).trans (by
    show ((List.toArray <$> rs.mapM (resOne a)).run P w).andThen _ = _
    rw [e3]; rfl)
theorem resultsL1 {fn : Func} {r : ResultVar} {v : Value} (h : fn.results = #[r]) (k : RV P n ρ M H r v) : ∀ a w, OkA n a ρ → Sat w M H → (results fn a.tmps).run P w = .ok v w :=
  resultsL (rs := [r]) h (.cons k .nil)
theorem resultsLN {fn : Func} {r s : ResultVar} {rs : List ResultVar} {v u : Value} {vs : List Value} (h : fn.results = (r :: s :: rs).toArray) (k : RVs P n ρ M H (r :: s :: rs) (v :: u :: vs)) : ∀ a w, OkA n a ρ → Sat w M H → (results fn a.tmps).run P w = .ok (.tuple (v :: u :: vs).toArray) w := by
  have := resultsL h k
  rw [dif_neg (by simp)] at this
  exact this
theorem WQ.returnsD {fn : Func} {M0 : IM} {F : HL} {R : Type} {post : R → Value → IM → HL → Prop} {v : Value} {e res : R} (hres : some e = some res) (H' : HL) (hd : ∀ w, Sat w M H → Sat w M (H' ++ F))
    (hr : ∀ a w, OkA n a ρ → Sat w M H → (results fn a.tmps).run P w = .ok v w) (hle : M0.le M) (hp : post e v M H') : WQ n (RetQ P fn M0 F (post res)) .ret ρ M H := by
  cases hres
  exact fun a w ha hs => ⟨ha.defers, v, hr a w ha hs, v, M, H', rfl, hle, hd w hs, hp⟩
theorem WQ.endsD {fn : Func} {M0 : IM} {F : HL} {R : Type} {post : R → Value → IM → HL → Prop} {v : Value} {e res : R} (hres : some e = some res) (H' : HL) (hd : ∀ w, Sat w M H → Sat w M (H' ++ F))
    (hr : ∀ a w, OkA n a ρ → Sat w M H → (results fn a.tmps).run P w = .ok v w) (hle : M0.le M) (hp : post e v M H') : WQ n (RetQ P fn M0 F (post res)) .normal ρ M H := by
  cases hres
  exact fun a w ha hs => ⟨ha.defers, v, hr a w ha hs, v, M, H', rfl, hle, hd w hs, hp⟩
theorem putL_list : ∀ (vs l : List Value) (j : Nat), putL l.toArray j vs = (setsL l j vs).toArray
  | [], _, _ => rfl
  | v :: r, l, j => by
    rw [putL, setsL, List.setIfInBounds_toArray, putL_list r]
variable {d : Option Nat} {ty : TypeId} {pos : String} {af : Array Edge} {g : Option (Nat × Bool)}
/-- A store, the cells told as lists. -/
theorem EO.storeL {x y : Operand} {t : TypeId} {b j : Nat} {v : Value} {vl arr arr' : List Value} {T : TypeId} {fr : Nat × Nat} {c : Chunk}
    (hvc : v.cells = vl.toArray) (hz : (P.info? t).map (·.size) = some vl.length) (hx : ev ρ x = .pointer (some ⟨b, j, none⟩)) (hy : ev ρ y = v) (h1 : ∀ u ∈ vl, u.oneCell' = true)
    (hl : Nat.ble (j + vl.length) arr.length = true) (hf : fr.1 = fr.2) (he : setsL arr j vl = arr') :
    EO P ⟨d, .store t x y, ty, pos, af, g⟩ ρ M (((b, .cells arr.toArray T fr) :: c) :: H) fun _ M' H' => M = M' ∧ H' = ((b, .cells arr'.toArray T fr) :: c) :: H :=
  EO.store (by rw [hvc]; simpa using hz) hx hy (by rw [hvc]; simpa using h1) (by rw [hvc]; simpa using Nat.le_of_ble_eq_true hl) (.inl hf) (by rw [hvc]; simp only; rw [putL_list, he])
end
end Go.KK
