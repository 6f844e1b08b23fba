/- What does not hang on where a new error lies: a computation that tells the same for each address; errors without their addresses. -/
import Derived.Test.YtmifmgpfjamdkaaDoorKErr
namespace Go.KK
open Go
/-- An error without the places of what is neither code nor fault. -/
def GErr.erase : GErr → GErr
  | .nil => .nil
  | .code n => .code n
  | .fault o a e => .fault o a e.erase
  | .other _ => .other ⟨0, 0, none⟩
theorem GErr.erase_erase (e : GErr) : e.erase.erase = e.erase := by
  induction e with
  | fault o a e ih => simp [erase, ih]
  | _ => rfl
open Classical in
noncomputable def anyA {R : Type} (T : Addr → Option R) : Option R := if h : ∃ x, ∀ a, T a = some x then some h.choose else none
theorem anyA_at {R : Type} {T : Addr → Option R} {x : R} (h : anyA T = some x) (a : Addr) : T a = some x := by
  unfold anyA at h
  by_cases k : ∃ x, ∀ a, T a = some x
  · rw [dif_pos k] at h
    cases h
    exact k.choose_spec a
  · rw [dif_neg k] at h
    cases h
theorem anyA_of {R : Type} {T : Addr → Option R} {x : R} (h : ∀ a, T a = some x) : anyA T = some x := by
  unfold anyA
  have k : ∃ x, ∀ a, T a = some x := ⟨x, h⟩
  rw [dif_pos k, ← k.choose_spec ⟨0, 0, none⟩, h]
open Classical in
noncomputable def anyE {R : Type} (r : GErr) (T : GErr → Option R) : Option R := if h : ∃ x, ∀ e, e.erase = r → T e = some x then some h.choose else none
theorem anyE_at {R : Type} {r e : GErr} {T : GErr → Option R} {x : R} (h : anyE r T = some x) (he : e.erase = r) : T e = some x := by
  unfold anyE at h
  by_cases k : ∃ x, ∀ e, e.erase = r → T e = some x
  · rw [dif_pos k] at h
    cases h
    exact k.choose_spec e he
  · rw [dif_neg k] at h
    cases h
theorem anyE_of {R : Type} {r e0 : GErr} {T : GErr → Option R} {x : R} (h0 : e0.erase = r) (h : ∀ e, e.erase = r → T e = some x) : anyE r T = some x := by
  unfold anyE
  have k : ∃ x, ∀ e, e.erase = r → T e = some x := ⟨x, h⟩
  rw [dif_pos k, ← k.choose_spec e0 h0, h e0 h0]
end Go.KK
